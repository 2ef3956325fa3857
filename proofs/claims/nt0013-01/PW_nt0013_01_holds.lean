import PyProof.Rows.All
import Wide.All
import OpenK.AllK
import Wide.FinOn
import PySem.Challenge.RW_nt0013_01
set_option Elab.async false
set_option compiler.extract_closed false
set_option maxRecDepth 100000
set_option linter.unusedVariables false
set_option linter.unusedSimpArgs false
set_option linter.unusedSectionVars false
namespace Mine
open PySem PySem.W PySem.Calls PyProof.Rows

/-- abstract values: what the program's values say, without tokens and (for tuples) without addresses -/
inductive V where
  | none
  | bool (b : Bool)
  | int (i : Int)
  | str (s : Str)
  | tup (l : List V)
  | ref (a : Addr)
  | lit (v : Value)

mutual
/-- a value of the machine says an abstract value in a heap -/
inductive VR (h : Heap) : Value → V → Prop
  | none : VR h .none .none
  | bool (b) : VR h (.bool b) (.bool b)
  | int (i t) : VR h (.int i t) (.int i)
  | str (s t) : VR h (.str s t) (.str s)
  | ref (a) : VR h (.ref a) (.ref a)
  | lit (v) : VR h v (.lit v)
  | tup {a o vs n l} : h.get? a = some o → o.cls = .type "tuple" → o.data = .seq vs n → VRs h vs.toList l → VR h (.ref a) (.tup l)
inductive VRs (h : Heap) : List Value → List V → Prop
  | nil : VRs h [] []
  | cons {v r vs rs} : VR h v r → VRs h vs rs → VRs h (v :: vs) (r :: rs)
end

/-- all tuples of one heap stand in another one -/
noncomputable def TupKeep (h h' : Heap) : Prop := ∀ a o vs n, h.get? a = some o → o.cls = .type "tuple" → o.data = .seq vs n → h'.get? a = some o
theorem TupKeep.refl (h : Heap) : TupKeep h h := fun _ _ _ _ e _ _ => e
theorem TupKeep.trans {h h' h'' : Heap} (x : TupKeep h h') (y : TupKeep h' h'') : TupKeep h h'' := fun a o vs n e c d => y a o vs n (x a o vs n e c d) c d
theorem TupKeep.of_keep {h h' : Heap} (k : ∀ b o, h.get? b = some o → h'.get? b = some o) : TupKeep h h' := fun a o _ _ e _ _ => k a o e
theorem TupKeep.sameBut {a : Addr} {h h' : Heap} {o : Obj} (hs : Heap.SameBut a h h') (ho : h.get? a = some o) (hd : ∀ vs n, o.data ≠ .seq vs n) : TupKeep h h' := fun b o' vs n e _ d => by
  by_cases q : b = a
  · subst q; rw [ho] at e; cases e; exact absurd d (hd vs n)
  · exact (hs.2 b q).trans e

mutual
theorem VR.mono {h h' : Heap} (k : TupKeep h h') {v r} (x : VR h v r) : VR h' v r := by
  cases x with
  | none => exact .none
  | bool b => exact .bool b
  | int i t => exact .int i t
  | str s t => exact .str s t
  | ref a => exact .ref a
  | lit v => exact .lit v
  | tup e c d l => exact .tup (k _ _ _ _ e c d) c d (VRs.mono k l)
theorem VRs.mono {h h' : Heap} (k : TupKeep h h') {vs rs} (x : VRs h vs rs) : VRs h' vs rs := by
  cases x with
  | nil => exact .nil
  | cons a b => exact .cons (VR.mono k a) (VRs.mono k b)
end
theorem VRs.length {h : Heap} {vs rs} (x : VRs h vs rs) : vs.length = rs.length := by
  cases x with
  | nil => rfl
  | cons _ b => exact congrArg Nat.succ (VRs.length b)
theorem VR.i {h v i} (x : VR h v (.int i)) : ∃ t, v = .int i t := by cases x; exact ⟨_, rfl⟩
theorem VR.s {h v i} (x : VR h v (.str i)) : ∃ t, v = .str i t := by cases x; exact ⟨_, rfl⟩
theorem VR.r {h v a} (x : VR h v (.ref a)) : v = .ref a := by cases x; rfl
theorem VR.b {h v b} (x : VR h v (.bool b)) : v = .bool b := by cases x; rfl
theorem VR.n {h v} (x : VR h v .none) : v = .none := by cases x; rfl
theorem VR.l {h v w} (x : VR h v (.lit w)) : v = w := by cases x; rfl
theorem VR.t {h v l} (x : VR h v (.tup l)) : ∃ a o vs n, v = .ref a ∧ h.get? a = some o ∧ o.cls = .type "tuple" ∧ o.data = .seq vs n ∧ VRs h vs.toList l := by cases x with | tup e c d y => exact ⟨_, _, _, _, rfl, e, c, d, y⟩
theorem VRs.n {h vs} (x : VRs h vs []) : vs = [] := by cases x; rfl
theorem VRs.c {h vs r rs} (x : VRs h vs (r :: rs)) : ∃ v ws, vs = v :: ws ∧ VR h v r ∧ VRs h ws rs := by cases x with | cons a b => exact ⟨_, _, rfl, a, b⟩
theorem VRs.append {h : Heap} {vs rs ws ss} (x : VRs h vs rs) (y : VRs h ws ss) : VRs h (vs ++ ws) (rs ++ ss) := by
  cases x with
  | nil => exact y
  | cons a b => exact .cons a (VRs.append b y)
theorem VRs.get {h : Heap} : ∀ {vs rs} {i : Nat} {r : V}, VRs h vs rs → rs[i]? = some r → ∃ v, vs[i]? = some v ∧ VR h v r
  | _, _, 0, _, .cons a _, e => by cases e; exact ⟨_, rfl, a⟩
  | _, _, n + 1, _, .cons _ b, e => VRs.get (i := n) b (by simpa using e)
theorem VRs.getV {h : Heap} : ∀ {vs rs} {i : Nat} {v : Value}, VRs h vs rs → vs[i]? = some v → ∃ r, rs[i]? = some r ∧ VR h v r
  | _, _, 0, _, .cons a _, e => by cases e; exact ⟨_, rfl, a⟩
  | _, _, n + 1, _, .cons _ b, e => VRs.getV (i := n) b (by simpa using e)
theorem VRs.drop {h : Heap} : ∀ {vs rs} (i : Nat), VRs h vs rs → VRs h (vs.drop i) (rs.drop i)
  | _, _, 0, x => x
  | _, _, _ + 1, .nil => .nil
  | _, _, i + 1, .cons _ b => VRs.drop i b
theorem VRs.take {h : Heap} : ∀ {vs rs} (i : Nat), VRs h vs rs → VRs h (vs.take i) (rs.take i)
  | _, _, 0, _ => .nil
  | _, _, _ + 1, .nil => .nil
  | _, _, i + 1, .cons a b => .cons a (VRs.take i b)
theorem VRs.snoc {h : Heap} {vs rs v r} (x : VRs h vs rs) (y : VR h v r) : VRs h (vs ++ [v]) (rs ++ [r]) := x.append (.cons y .nil)

/-- abstract objects -/
inductive AO where
  | list (l : List V)
  | sd (kvs : List (Str × V))
  | zd (kvs : List (Int × V))
  | inst (C d : Addr)
  | att (f : Str → Option V) (n : Nat)
  | raw (o : Obj)

/-- pairs of a dict by its values -/
inductive KR {K : Type} (h : Heap) : List (K × Value) → List (K × V) → Prop
  | nil : KR h [] []
  | cons {k v r vs rs} : VR h v r → KR h vs rs → KR h ((k, v) :: vs) ((k, r) :: rs)
theorem KR.mono {K : Type} {h h' : Heap} (k : TupKeep h h') {vs : List (K × Value)} {rs} (x : KR h vs rs) : KR h' vs rs := by
  induction x with
  | nil => exact .nil
  | cons a b ih => exact .cons (a.mono k) ih
theorem KR.keys {K : Type} {h : Heap} {vs : List (K × Value)} {rs} (x : KR h vs rs) : vs.map (·.1) = rs.map (·.1) := by
  induction x with
  | nil => rfl
  | cons _ b ih => exact congrArg (_ :: ·) ih

section
variable (prog : Program) (w : World)

/-- an abstract object stands in a heap -/
noncomputable def OR (h : Heap) (a : Addr) : AO → Prop
  | .list l => ∃ vs n, h.get? a = some (listOf vs n) ∧ VRs h vs.toList l ∧ l.length ≤ 2 ^ 21
  | .sd kvs => ∃ ks, h.DictOf (PySem.strKind prog w) a ks ∧ KR h ks kvs ∧ kvs.length ≤ 2 ^ 21
  | .zd kvs => ∃ ks, h.DictOf (PySem.intKind prog w) a ks ∧ KR h ks kvs ∧ kvs.length ≤ 2 ^ 21
  | .inst C d => h.get? a = some (instObj C d)
  | .raw o => h.get? a = some o ∧ ∃ vs, o.data = .fields vs
  | .att f n => ∃ o es ep, h.get? a = some o ∧ o.data = .dict es ep ∧ StrKeys es ∧ es.size ≤ n ∧
      ∀ x, match f x with | some r => ∃ v, nsFind es x = some v ∧ VR h v r | none => nsFind es x = none
end
end Mine
namespace Mine
open PySem PySem.W PySem.Calls PyProof.Rows

noncomputable abbrev AH := Addr → Option AO
noncomputable def AH.put (H : AH) (a : Addr) (o : AO) : AH := fun b => if b = a then some o else H b
theorem AH.put_self (H : AH) (a : Addr) (o : AO) : H.put a o a = some o := if_pos rfl
theorem AH.put_ne (H : AH) {a b : Addr} (o : AO) (h : b ≠ a) : H.put a o b = H b := if_neg h

/-- what stands for the whole proof -/
structure Gl where
  prog : Program
  w : World
  h₀ : Heap
  K : Frag
  mg : Str → Option Value
  mb : Str → Option Value
  os : OsState
  dr : Drawn
  g : h₀.Ns mainGlobals mg
  b : h₀.Ns builtinsNs mb
  nolim : h₀.NoLimit
  X : K.In h₀
  low : ∃ o, h₀.get? sysModules = some o

noncomputable abbrev Gl.M (G : Gl) : Model := model G.prog G.w

structure StH (G : Gl) (B : Addr → Option Obj) (H : AH) (s : Shared) : Prop where
  os : s.os = G.os ∧ s.drawn = G.dr
  gens : s.gens = #[]
  top : ∀ b o, G.h₀.get? b = some o → B b = some o
  keep : ∀ b o, B b = some o → s.heap.get? b = some o
  hr : ∀ a o, H a = some o → OR G.prog G.w s.heap a o
  apart : ∀ a o, H a = some o → B a = none

theorem StH.keep0 {G : Gl} {B H s} (S : StH G B H s) : ∀ b o, G.h₀.get? b = some o → s.heap.get? b = some o := fun b o e => S.keep b o (S.top b o e)

theorem OR.obj {prog w h a o} (x : OR prog w h a o) : ∃ ob, h.get? a = some ob ∧ (∀ vs n, ob.cls = .type "tuple" → ob.data ≠ .seq vs n) ∧ (∀ v, ob.data ≠ .cell v) := by
  cases o with
  | list l => obtain ⟨vs, n, e, _⟩ := x; exact ⟨_, e, (fun _ _ q => by simp at q), (fun v q => by cases q)⟩
  | sd l => obtain ⟨ks, ⟨ob, es, ep, e, ⟨c, _⟩, d, _⟩, _⟩ := x; exact ⟨_, e, (fun _ _ _ q => by rw [d] at q; cases q), (fun v q => by rw [d] at q; cases q)⟩
  | zd l => obtain ⟨ks, ⟨ob, es, ep, e, ⟨c, _⟩, d, _⟩, _⟩ := x; exact ⟨_, e, (fun _ _ _ q => by rw [d] at q; cases q), (fun v q => by rw [d] at q; cases q)⟩
  | inst C d => exact ⟨_, x, (fun _ _ _ q => by cases q), (fun v q => by cases q)⟩
  | raw o => obtain ⟨e, vs, d⟩ := x; exact ⟨_, e, (fun _ _ _ q => by rw [d] at q; cases q), (fun v q => by rw [d] at q; cases q)⟩
  | att l _ => obtain ⟨ob, es, n, e, d, _⟩ := x; exact ⟨_, e, (fun _ _ _ q => by rw [d] at q; cases q), (fun v q => by rw [d] at q; cases q)⟩

theorem OR.mono {prog w h h' a o} (x : OR prog w h a o) (t : TupKeep h h') (k : ∀ ob, h.get? a = some ob → h'.get? a = some ob) : OR prog w h' a o := by
  cases o with
  | list l => obtain ⟨vs, n, e, v, z⟩ := x; exact ⟨vs, n, k _ e, v.mono t, z⟩
  | sd l => obtain ⟨ks, ⟨ob, es, ep, e, r⟩, v, z⟩ := x; exact ⟨ks, ⟨ob, es, ep, k _ e, r⟩, v.mono t, z⟩
  | zd l => obtain ⟨ks, ⟨ob, es, ep, e, r⟩, v, z⟩ := x; exact ⟨ks, ⟨ob, es, ep, k _ e, r⟩, v.mono t, z⟩
  | inst C d => exact k _ x
  | raw o => exact ⟨k _ x.1, x.2⟩
  | att l _ =>
    obtain ⟨ob, es, n, e, d, s, z, f⟩ := x
    refine ⟨ob, es, n, k _ e, d, s, z, fun y => ?_⟩
    have := f y
    revert this
    cases l y with
    | none => exact id
    | some r => rintro ⟨v, h1, h2⟩; exact ⟨v, h1, h2.mono t⟩

/-- the whole heap but what the abstract one holds -/
noncomputable def Bmax (H : AH) (h : Heap) : Addr → Option Obj := fun b => match H b with | some _ => none | none => h.get? b
theorem Bmax_some {H : AH} {h : Heap} {b : Addr} {o : Obj} (hn : H b = none) (e : h.get? b = some o) : Bmax H h b = some o := by unfold Bmax; rw [hn]; exact e
theorem of_Bmax {H : AH} {h : Heap} {b : Addr} {o : Obj} (e : Bmax H h b = some o) : H b = none ∧ h.get? b = some o := by
  unfold Bmax at e; cases q : H b with
  | none => rw [q] at e; exact ⟨rfl, e⟩
  | some _ => rw [q] at e; cases e

theorem StH.max {G : Gl} {B H s} (S : StH G B H s) : StH G (Bmax H s.heap) H s where
  os := S.os
  gens := S.gens
  top := fun b o e => Bmax_some (by
    cases q : H b with
    | none => rfl
    | some x => have := S.apart b x q; rw [S.top b o e] at this; cases this) (S.keep0 b o e)
  keep := fun _ _ e => (of_Bmax e).2
  hr := S.hr
  apart := fun a o e => by unfold Bmax; rw [e]
theorem StH.le {G : Gl} {B H s} (S : StH G B H s) : ∀ b o, B b = some o → Bmax H s.heap b = some o := fun b o e => Bmax_some (by
    cases q : H b with
    | none => rfl
    | some x => have := S.apart b x q; rw [e] at this; cases this) (S.keep b o e)
/-- a smaller frame -/
theorem StH.less {G : Gl} {B B' H s} (S : StH G B' H s) (le : ∀ b o, B b = some o → B' b = some o) (top : ∀ b o, G.h₀.get? b = some o → B b = some o) : StH G B H s where
  os := S.os
  gens := S.gens
  top := top
  keep := fun b o e => S.keep b o (le b o e)
  hr := S.hr
  apart := fun a o e => by
    cases q : B a with
    | none => rfl
    | some x => have := S.apart a o e; rw [le _ _ q] at this; cases this
theorem StH.tup {G : Gl} {B H s s'} (S : StH G B H s) (S' : StH G (Bmax H s.heap) H' s') : TupKeep s.heap s'.heap := fun a o _ _ e c d => S'.keep a o (Bmax_some (by
    cases q : H a with
    | none => rfl
    | some x =>
      obtain ⟨ob, h1, h2, _⟩ := (S.hr a x q).obj
      rw [e] at h1; cases h1
      exact absurd d (h2 _ _ c)) e)

/-- the room that is left: calls (n), and the rest of what stands around -/
structure Rm (A : Around) (n : Nat) : Prop where
  depth : A.depth + n < 1000
  units : A.units + 10 * n < 9900
  handled : A.handled = none
  guards : A.guards = some []
  frames : ∃ l, A.frames = some l
theorem Rm.le {A : Around} {n m : Nat} (R : Rm A n) (h : m ≤ n) : Rm A m := ⟨by have := R.depth; omega, by have := R.units; omega, R.handled, R.guards, R.frames⟩
theorem Rm.to {A : Around} {n m k : Nat} (R : Rm A (n + m)) (h : Nat.ble k m = true := by rfl) : Rm A (n + k) := R.le (by have := Nat.le_of_ble_eq_true h; omega)
theorem Rm.base {A : Around} {n m : Nat} (R : Rm A (n + m)) : Rm A n := R.le (Nat.le_add_right _ _)
theorem Rm.deeper {A : Around} {n : Nat} (R : Rm A (n + 1)) (env : Env) : Rm (A.deeper env) n :=
  ⟨by have := R.depth; show A.depth + 1 + n < 1000; omega, by have := R.units; show A.units + 3 + 10 * n < 9900; omega, R.handled, R.guards, by obtain ⟨l, e⟩ := R.frames; exact ⟨env :: l, by show A.frames.map _ = _; rw [e]; rfl⟩⟩
theorem cUnits_make (C : Addr) (rest : List Value) (kw : List (Str × Value)) : (Code.builtin "type.__call__" ⟨.ref C :: rest, kw⟩).cUnits = 1 := by with_unfolding_all rfl
theorem Rm.make {A : Around} {n : Nat} (R : Rm A (n + 1)) (C : Addr) (rest : List Value) (kw : List (Str × Value)) : Rm (A.under (.builtin "type.__call__" ⟨.ref C :: rest, kw⟩)) n :=
  ⟨by have := R.depth; show A.depth + 1 + n < 1000; omega, by
    have := R.units
    show A.units + (Code.builtin "type.__call__" ⟨.ref C :: rest, kw⟩).cUnits + 10 * n < 9900
    rw [cUnits_make]; omega, R.handled, R.guards, R.frames⟩

/-- a frame of the program's: static part -/
structure Cx where
  G : Gl
  A : Around
  n : Nat
  rm : Rm A n
  env : Env
  wr : Bool
  kind : env.scope.kind = .function
  globals : env.globals = mainGlobals
  builtins : env.builtins = builtinsNs
  inj : ∀ x y c, env.cells.lookup x = some c → env.cells.lookup y = some c → x = y
  cellAll : ∀ x, env.kindOf x = some .cell → ∃ c, env.cells.lookup x = some c

noncomputable abbrev Cx.M (C : Cx) : Model := C.G.M

noncomputable abbrev Lo := Str → Option V
noncomputable def Lo.put (σ : Lo) (x : Str) (r : V) : Lo := fun y => if y = x then some r else σ y

structure Frm (C : Cx) (σ : Lo) (h : Heap) : Prop where
  ns : ∃ m, h.Ns C.env.locals m ∧ ∀ x r, C.env.kindOf x = some .local → σ x = some r → ∃ v, m x = some v ∧ VR h v r
  cell : ∀ x c, C.env.cells.lookup x = some c → ∃ o, h.IsCell c o ∧ ∀ r, (C.env.kindOf x = some .cell ∨ C.env.kindOf x = some .free) → σ x = some r → ∃ v, o = some v ∧ VR h v r

structure St (C : Cx) (B : Addr → Option Obj) (σ : Lo) (H : AH) (s : Shared) : Prop where
  toH : StH C.G B H s
  frm : Frm C σ s.heap
  hl : H C.env.locals = none

theorem St.hcell {C B σ H s} (S : St C B σ H s) {x c} (e : C.env.cells.lookup x = some c) : H c = none := by
  cases q : H c with
  | none => rfl
  | some o =>
    obtain ⟨ob, h1, _, h3⟩ := (S.toH.hr c o q).obj
    obtain ⟨v, ⟨o', h4, h5⟩, _⟩ := S.frm.cell x c e
    rw [h1] at h4; cases h4
    exact absurd h5 (h3 v)

noncomputable def Fls : Value → Shared → Prop := fun _ _ => False

noncomputable def PostG {α β : Type} (rel : Heap → α → β → Prop) (G : Gl) (B : Addr → Option Obj) (Q : β → AH → Prop) : α → Shared → Prop :=
  fun u s' => ∃ r H', rel s'.heap u r ∧ StH G B H' s' ∧ Q r H'
noncomputable abbrev PostV := @PostG Value V VR
noncomputable abbrev PostB := @PostG Bool Bool (fun _ a b => a = b)
noncomputable abbrev PostU := @PostG Unit Unit (fun _ _ _ => True)
noncomputable abbrev PostL := @PostG (List Value) (List V) VRs

theorem Frm.keep {C : Cx} {σ : Lo} {H : AH} {h h' : Heap} (F : Frm C σ h) (hl : H C.env.locals = none) (hc : ∀ x c, C.env.cells.lookup x = some c → H c = none)
    (k : ∀ b o, Bmax H h b = some o → h'.get? b = some o) (t : TupKeep h h') : Frm C σ h' where
  ns := by
    obtain ⟨m, ⟨o, es, ep, ho, r⟩, hm⟩ := F.ns
    refine ⟨m, ⟨o, es, ep, k _ _ (Bmax_some hl ho), r⟩, fun x y a b => ?_⟩
    obtain ⟨v, h1, h2⟩ := hm x y a b
    exact ⟨v, h1, h2.mono t⟩
  cell := fun x c e => by
    obtain ⟨v, ⟨o, ho, hd⟩, hm⟩ := F.cell x c e
    refine ⟨v, ⟨o, k _ _ (Bmax_some (hc x c e) ho), hd⟩, fun r a b => ?_⟩
    obtain ⟨v, h1, h2⟩ := hm r a b
    exact ⟨v, h1, h2.mono t⟩

/-- THE FRAME RULE: what holds for every kept part, keeps the frame and all tuples -/
theorem frame {α β : Type} {rel : Heap → α → β → Prop} {C : Cx} {A : Around} {B σ H} {s : Shared} {t : Sem α} {Q : β → AH → Prop} (S : St C B σ H s)
    (h : ∀ B, St C B σ H s → wpAny C.M A t (PostG rel C.G B Q) Fls s) :
    wpAny C.M A t (fun u s' => ∃ r H', rel s'.heap u r ∧ St C B σ H' s' ∧ TupKeep s.heap s'.heap ∧ Q r H') Fls s := by
  refine wpAny_mono (h (Bmax H s.heap) ⟨S.toH.max, S.frm, S.hl⟩) (fun u s' x => ?_) fun _ _ x => x
  obtain ⟨r, H', h1, h2, h3⟩ := x
  have t := S.toH.tup h2
  refine ⟨r, H', h1, ⟨h2.less S.toH.le S.toH.top, S.frm.keep S.hl (fun x c e => S.hcell e) h2.keep t, ?_⟩, t, h3⟩
  obtain ⟨m, ⟨o, es, ep, ho, r⟩, hm⟩ := S.frm.ns
  cases q : H' C.env.locals with
  | none => rfl
  | some x => have := h2.apart _ _ q; rw [Bmax_some S.hl ho] at this; cases this

theorem StH.tok {G : Gl} {B H s} (S : StH G B H s) (t : Nat) : StH G B H { s with toks := t } := ⟨S.os, S.gens, S.top, S.keep, S.hr, S.apart⟩
theorem St.tok {C : Cx} {B σ H s} (S : St C B σ H s) (t : Nat) : St C B σ H { s with toks := t } := ⟨S.toH.tok t, S.frm, S.hl⟩

/-- an expression -/
noncomputable def Ev (C : Cx) (e : Expr) (σ : Lo) (H : AH) (Q : V → AH → Prop) : Prop :=
  ∀ B s, St C B σ H s → wpAny C.M C.A (eval e C.env) (PostV C.G B Q) Fls s
/-- a test -/
noncomputable def Et (C : Cx) (e : Expr) (σ : Lo) (H : AH) (Q : Bool → AH → Prop) : Prop :=
  ∀ B s, St C B σ H s → wpAny C.M C.A (isTrue e C.env (eval e C.env)) (PostB C.G B Q) Fls s
/-- a list of expressions, in order -/
noncomputable def Es (C : Cx) (es : List Expr) (σ : Lo) (H : AH) (Q : List V → AH → Prop) : Prop :=
  ∀ B s, St C B σ H s → ∀ pos, wpAny C.M C.A (spliced (backTo pos (starEach es C.env))) (PostL C.G B Q) Fls s

/-- trees over values -/
noncomputable def Do (G : Gl) (A : Around) (rs : List V) (H : AH) (t : List Value → Sem Value) (Q : V → AH → Prop) : Prop :=
  ∀ B s vs, StH G B H s → VRs s.heap vs rs → wpAny G.M A (t vs) (PostV G B Q) Fls s

theorem Ev.go {C e σ H Q B s} (h : Ev C e σ H Q) (S : St C B σ H s) :
    wpAny C.M C.A (eval e C.env) (fun u s' => ∃ r H', VR s'.heap u r ∧ St C B σ H' s' ∧ TupKeep s.heap s'.heap ∧ Q r H') Fls s := frame S fun B S => h B s S
theorem Et.go {C e σ H Q B s} (h : Et C e σ H Q) (S : St C B σ H s) :
    wpAny C.M C.A (isTrue e C.env (eval e C.env)) (fun u s' => ∃ r H', u = r ∧ St C B σ H' s' ∧ TupKeep s.heap s'.heap ∧ Q r H') Fls s := frame S fun B S => h B s S

theorem Ev.mono {C e σ H} {Q Q' : V → AH → Prop} (h : Ev C e σ H Q) (q : ∀ r H', Q r H' → Q' r H') : Ev C e σ H Q' := fun B s S =>
  wpAny_mono (h B s S) (fun _ _ ⟨r, H', a, b, c⟩ => ⟨r, H', a, b, q r H' c⟩) fun _ _ x => x
theorem Et.mono {C e σ H} {Q Q' : Bool → AH → Prop} (h : Et C e σ H Q) (q : ∀ r H', Q r H' → Q' r H') : Et C e σ H Q' := fun B s S =>
  wpAny_mono (h B s S) (fun _ _ ⟨r, H', a, b, c⟩ => ⟨r, H', a, b, q r H' c⟩) fun _ _ x => x

section
variable {C : Cx} {σ : Lo} {H : AH}
theorem Ev.int {i k pos} {Q : V → AH → Prop} (h : Q (.int i) H) : Ev C (.Constant (.int i) k pos) σ H Q := fun B s S => by
  show wpAny _ _ (constValue C.env (.int i)) _ _ _
  exact wpAny_mkInt ⟨_, H, .int i _, S.toH.tok _, h⟩
theorem Ev.str {i k pos} {Q : V → AH → Prop} (h : Q (.str i) H) : Ev C (.Constant (.str i) k pos) σ H Q := fun B s S => by
  show wpAny _ _ (constValue C.env (.str i)) _ _ _
  exact wpAny_mkText ⟨_, H, .str i _, S.toH.tok _, h⟩
theorem Ev.bool {i k pos} {Q : V → AH → Prop} (h : Q (.bool i) H) : Ev C (.Constant (.bool i) k pos) σ H Q := fun B s S => by
  show wpAny _ _ (constValue C.env (.bool i)) _ _ _
  exact wpAny_pure ⟨_, H, .bool i, S.toH, h⟩
theorem Ev.none {k pos} {Q : V → AH → Prop} (h : Q .none H) : Ev C (.Constant .none k pos) σ H Q := fun B s S => by
  show wpAny _ _ (constValue C.env .none) _ _ _
  exact wpAny_pure ⟨_, H, .none, S.toH, h⟩

theorem Ev.local {x pos r} {Q : V → AH → Prop} (hk : C.env.kindOf x = some .local) (e : σ x = some r) (h : Q r H) (hd : (x == ("__debug__" : Str)) = false := by kernel_rfl) :
    Ev C (.Name x pos) σ H Q := fun B s S => by
  obtain ⟨m, n, hm⟩ := S.frm.ns
  obtain ⟨v, e1, e2⟩ := hm x r hk e
  exact wpAny_Name (wpAny_loadName_local C.kind hk n e1 ⟨r, H, e2, S.toH, h⟩) hd
theorem Ev.cell {x pos r} {Q : V → AH → Prop} (hk : C.env.kindOf x = some .cell) (e : σ x = some r) (h : Q r H) (hd : (x == ("__debug__" : Str)) = false := by kernel_rfl) :
    Ev C (.Name x pos) σ H Q := fun B s S => by
  obtain ⟨c, hc⟩ := C.cellAll x hk
  obtain ⟨o, n, hm⟩ := S.frm.cell x c hc
  obtain ⟨v, rfl, e2⟩ := hm r (.inl hk) e
  exact wpAny_Name (wpAny_loadName_cell C.kind hk hc n ⟨r, H, e2, S.toH, h⟩) hd
theorem Ev.free {x pos c r} {Q : V → AH → Prop} (hk : C.env.kindOf x = some .free) (hc : C.env.cells.lookup x = some c) (e : σ x = some r) (h : Q r H) (hd : (x == ("__debug__" : Str)) = false := by kernel_rfl)
    (hn : (x == ("__classdict__" : Str)) = false := by kernel_rfl) :
    Ev C (.Name x pos) σ H Q := fun B s S => by
  obtain ⟨o, n, hm⟩ := S.frm.cell x c hc
  obtain ⟨v, rfl, e2⟩ := hm r (.inr hk) e
  exact wpAny_Name (wpAny_loadName_free C.kind hk hc n ⟨r, H, e2, S.toH, h⟩ hn) hd
theorem Ev.global {x pos v r} {Q : V → AH → Prop} (hk : C.env.kindOf x = some .globalImplicit) (hg : C.G.mg x = some v) (hr : VR C.G.h₀ v r) (h : Q r H) (hd : (x == ("__debug__" : Str)) = false := by kernel_rfl) :
    Ev C (.Name x pos) σ H Q := fun B s S =>
  Name_function_global C.kind hk (loadGlobal_global (C.globals ▸ C.G.g.keeps S.toH.keep0) hg ⟨r, H, hr.mono (.of_keep S.toH.keep0), S.toH, h⟩) hd
theorem Ev.builtin {x pos v} {Q : V → AH → Prop} (hk : C.env.kindOf x = some .globalImplicit) (hg : C.G.mg x = Option.none) (hb : C.G.mb x = some v) (h : Q (.lit v) H) (hd : (x == ("__debug__" : Str)) = false := by kernel_rfl) :
    Ev C (.Name x pos) σ H Q := fun B s S =>
  Name_function_global C.kind hk (loadGlobal_builtin (C.globals ▸ C.G.g.keeps S.toH.keep0) hg (C.builtins ▸ C.G.b.keeps S.toH.keep0) hb ⟨_, H, .lit v, S.toH, h⟩) hd

theorem wpF_mono {α : Type} {M : Model} {A : Around} {t : Sem α} {Q Q' : α → Shared → Prop} {E : Value → Shared → Prop} {s : Shared} (h : wpAny M A t Q Fls s) (q : ∀ a s, Q a s → Q' a s) : wpAny M A t Q' E s := wpAny_mono h q fun _ _ x => x.elim

theorem Ev.use {C e σ H Q B s} (h : Ev C e σ H Q) (S : St C B σ H s) {Q' : Value → Shared → Prop} {E : Value → Shared → Prop} (k : ∀ u s' r H', VR s'.heap u r → St C B σ H' s' → TupKeep s.heap s'.heap → Q r H' → Q' u s') : wpAny C.M C.A (eval e C.env) Q' E s :=
  wpF_mono (h.go S) fun u s' z => by obtain ⟨r, H', a, b, c, d⟩ := z; exact k u s' r H' a b c d
theorem Et.use {C e σ H Q B s} (h : Et C e σ H Q) (S : St C B σ H s) {Q' : Bool → Shared → Prop} {E : Value → Shared → Prop} (k : ∀ u s' r H', u = r → St C B σ H' s' → TupKeep s.heap s'.heap → Q r H' → Q' u s') : wpAny C.M C.A (isTrue e C.env (eval e C.env)) Q' E s :=
  wpF_mono (h.go S) fun u s' z => by obtain ⟨r, H', a, b, c, d⟩ := z; exact k u s' r H' a b c d
noncomputable abbrev KDo (C : Cx) (a : V) (t : List Value → Sem Value) (Q : V → AH → Prop) : V → AH → Prop := fun b H₂ => Do C.G C.A [a, b] H₂ t Q
noncomputable abbrev KBin (C : Cx) (r : Expr) (t : List Value → Sem Value) (σ : Lo) (Q : V → AH → Prop) : V → AH → Prop := fun a H₁ => Ev C r σ H₁ (KDo C a t Q)
noncomputable abbrev KB (Q : Bool → AH → Prop) : V → AH → Prop := fun c H₃ => ∃ z, c = .bool z ∧ Q z H₃
theorem Ev.binop {l op r pos} {Q : V → AH → Prop}
    (h : Ev C l σ H (KBin C r (fun vs => binaryOp op (vs.getD 0 .none) (vs.getD 1 .none)) σ Q)) : Ev C (.BinOp l op r pos) σ H Q := fun B s S => by
  refine wpAny_BinOp (h.use S fun u s₁ a H₁ v1 S1 _ h1 => ?_)
  refine h1.use S1 fun v s₂ b H₂ v2 S2 t2 h2 => ?_
  exact h2 B s₂ [u, v] S2.toH (.cons (v1.mono t2) (.cons v2 .nil))

theorem Ev.compare {l op r pos} {Q : V → AH → Prop}
    (h : Ev C l σ H (KBin C r (fun vs => compareOp op (vs.getD 0 .none) (vs.getD 1 .none)) σ Q))
    (hm : behindInMarks op r = false := by kernel_rfl) : Ev C (.Compare l [op] [r] pos) σ H Q := fun B s S => by
  refine wpAny_Compare1 (h.use S fun u s₁ a H₁ v1 S1 _ h1 => ?_) hm
  refine h1.use S1 fun v s₂ b H₂ v2 S2 t2 h2 => ?_
  exact h2 B s₂ [u, v] S2.toH (.cons (v1.mono t2) (.cons v2 .nil))
theorem Et.compare {l op r pos} {Q : Bool → AH → Prop}
    (h : Ev C l σ H (KBin C r (fun vs => compareOp op (vs.getD 0 .none) (vs.getD 1 .none)) σ (KB Q)))
    (hm : behindInMarks op r = false := by kernel_rfl) : Et C (.Compare l [op] [r] pos) σ H Q := fun B s S => by
  refine wpAny_isTrue_Compare1 (h.use S fun u s₁ a H₁ v1 S1 _ h1 => ?_) hm
  refine h1.use S1 fun v s₂ b H₂ v2 S2 t2 h2 => ?_
  refine wpAny_mono (h2 B s₂ [u, v] S2.toH (.cons (v1.mono t2) (.cons v2 .nil))) (fun c s₃ ⟨z, H₃, v3, S3, z', e, q⟩ => ?_) fun _ _ x => x
  subst e
  cases v3
  exact wpAny_truthy_bool ⟨z', H₃, rfl, S3, q⟩

end
end Mine
namespace Mine
open PySem PySem.W PySem.Calls PyProof.Rows

/-- a frame whose own places are writeable -/
structure StW (C : Cx) (B : Addr → Option Obj) (σ : Lo) (H : AH) (s : Shared) : Prop where
  toSt : St C B σ H s
  bl : B C.env.locals = none
  bc : C.wr = true → ∀ x c, C.env.kindOf x = some .cell → C.env.cells.lookup x = some c → B c = none

theorem StW.tok {C : Cx} {B σ H s} (S : StW C B σ H s) (t : Nat) : StW C B σ H { s with toks := t } := ⟨S.toSt.tok t, S.bl, S.bc⟩
theorem StW.st {C : Cx} {B σ H H' s s'} (S : StW C B σ H s) (S' : St C B σ H' s') : StW C B σ H' s' := ⟨S', S.bl, S.bc⟩

/-- all but what the abstract heap holds and the frame's own places -/
noncomputable def Bown (C : Cx) (b : Addr) : Prop := b = C.env.locals ∨ (C.wr = true ∧ ∃ x, C.env.kindOf x = some .cell ∧ C.env.cells.lookup x = some b)
open Classical in
noncomputable def Bfr (C : Cx) (H : AH) (h : Heap) : Addr → Option Obj := fun b => if Bown C b then none else Bmax H h b
theorem of_Bfr {C H h b o} (e : Bfr C H h b = some o) : ¬ Bown C b ∧ H b = none ∧ h.get? b = some o := by
  unfold Bfr at e
  split at e
  · cases e
  · exact ⟨by assumption, of_Bmax e⟩
theorem Bfr_some {C H h b o} (n : ¬ Bown C b) (hn : H b = none) (e : h.get? b = some o) : Bfr C H h b = some o := by
  unfold Bfr; rw [if_neg n]; exact Bmax_some hn e
theorem StW.own {C B σ H s} (S : StW C B σ H s) {b} (h : Bown C b) : B b = none := by
  rcases h with rfl | ⟨hw, x, h1, h2⟩
  · exact S.bl
  · exact S.bc hw x b h1 h2
theorem StW.top {C B σ H s} (S : StW C B σ H s) : ∀ b o, C.G.h₀.get? b = some o → Bfr C H s.heap b = some o := fun b o e => by
  refine Bfr_some (fun h => ?_) (of_Bmax (S.toSt.toH.le b o (S.toSt.toH.top b o e))).1 (S.toSt.toH.keep0 b o e)
  have := S.own h; rw [S.toSt.toH.top b o e] at this; cases this
theorem StW.le {C B σ H s} (S : StW C B σ H s) : ∀ b o, B b = some o → Bfr C H s.heap b = some o := fun b o e => by
  refine Bfr_some (fun h => ?_) (of_Bmax (S.toSt.toH.le b o e)).1 (S.toSt.toH.keep b o e)
  have := S.own h; rw [e] at this; cases this
theorem StW.max {C B σ H s} (S : StW C B σ H s) : StW C (Bfr C H s.heap) σ H s where
  toSt := ⟨S.toSt.toH.max.less (fun b o e => Bmax_some (of_Bfr e).2.1 (of_Bfr e).2.2) S.top, S.toSt.frm, S.toSt.hl⟩
  bl := by unfold Bfr; rw [if_pos (.inl rfl)]
  bc := fun hw x c h1 h2 => by unfold Bfr; rw [if_pos (.inr ⟨hw, x, h1, h2⟩)]
theorem StW.less {C B B' σ H s} (S : StW C B' σ H s) (le : ∀ b o, B b = some o → B' b = some o) (top : ∀ b o, C.G.h₀.get? b = some o → B b = some o) : StW C B σ H s where
  toSt := ⟨S.toSt.toH.less le top, S.toSt.frm, S.toSt.hl⟩
  bl := by
    cases q : B C.env.locals with
    | none => rfl
    | some o => have := S.bl; rw [le _ _ q] at this; cases this
  bc := fun hw x c h1 h2 => by
    cases q : B c with
    | none => rfl
    | some o => have := S.bc hw x c h1 h2; rw [le _ _ q] at this; cases this

/-- how a statement ends -/
noncomputable def PostS (C : Cx) (B : Addr → Option Obj) (Qn : Lo → AH → Prop) (Qr : V → AH → Prop) : Flow → Shared → Prop := fun f s' => match f with
  | .next => ∃ σ' H', StW C B σ' H' s' ∧ Qn σ' H'
  | .ret v => ∃ r H', VR s'.heap v r ∧ StH C.G B H' s' ∧ Qr r H'
  | _ => False
noncomputable def Ex (C : Cx) (ss : List Stmt) (σ : Lo) (H : AH) (Qn : Lo → AH → Prop) (Qr : V → AH → Prop) : Prop :=
  ∀ B s, StW C B σ H s → wpAny C.M C.A (execs ss C.env) (PostS C B Qn Qr) Fls s
noncomputable def Ex1 (C : Cx) (st : Stmt) (σ : Lo) (H : AH) (Qn : Lo → AH → Prop) (Qr : V → AH → Prop) : Prop :=
  ∀ B s, StW C B σ H s → wpAny C.M C.A (exec st C.env) (PostS C B Qn Qr) Fls s
/-- a store into a target -/
noncomputable def As (C : Cx) (t : Expr) (r : V) (σ : Lo) (H : AH) (Q : Lo → AH → Prop) : Prop :=
  ∀ B s v, StW C B σ H s → VR s.heap v r → wpAny C.M C.A (assign t C.env v) (fun _ s' => ∃ σ' H', StW C B σ' H' s' ∧ Q σ' H') Fls s

section
variable {C : Cx} {σ : Lo} {H : AH} {Qn : Lo → AH → Prop} {Qr : V → AH → Prop}

theorem Ex.mono {ss} {Qn' : Lo → AH → Prop} {Qr' : V → AH → Prop} (h : Ex C ss σ H Qn Qr) (n : ∀ σ H, Qn σ H → Qn' σ H) (r : ∀ v H, Qr v H → Qr' v H) : Ex C ss σ H Qn' Qr' := fun B s S =>
  wpAny_mono (h B s S) (fun f s' x => by
    cases f with
    | next => obtain ⟨a, b, c, d⟩ := x; exact ⟨a, b, c, n _ _ d⟩
    | ret v => obtain ⟨a, b, c, d, e⟩ := x; exact ⟨a, b, c, d, r _ _ e⟩
    | _ => exact x) fun _ _ x => x

theorem Ex.nil (h : Qn σ H) : Ex C [] σ H Qn Qr := fun B s S => wpAny_execs_nil ⟨σ, H, S, h⟩
noncomputable abbrev KRest (C : Cx) (rest : List Stmt) (Qn : Lo → AH → Prop) (Qr : V → AH → Prop) : Lo → AH → Prop := fun σ' H' => Ex C rest σ' H' Qn Qr
theorem Ex.cons {st rest} (h : Ex1 C st σ H (KRest C rest Qn Qr) Qr) : Ex C (st :: rest) σ H Qn Qr := fun B s S =>
  wpAny_execs_cons (wpAny_mono (h B s S) (fun f s' x => by
    cases f with
    | next => obtain ⟨a, b, c, d⟩ := x; exact d B s' c
    | ret v => exact x
    | _ => exact x) fun _ _ x => x)
theorem Lo.put_self (σ : Lo) (x r) : σ.put x r x = some r := if_pos rfl
theorem Lo.put_ne (σ : Lo) {x y} (r) (h : y ≠ x) : σ.put x r y = σ y := if_neg h

/-- the place of a local is stored -/
theorem StW.store {B s x v r} (S : StW C B σ H s) (hv : VR s.heap v r) (hk : C.env.kindOf x = some .local) {Q : Unit → Shared → Prop}
    (h : ∀ s', StW C B (σ.put x r) H s' → TupKeep s.heap s'.heap → Q () s') : wpAny C.M C.A (storeName C.env x v) Q Fls s := by
  obtain ⟨m, n, hm⟩ := S.toSt.frm.ns
  refine wpAny_storeName_local hk n (fun h' n' hs => ?_) (by rw [C.kind]; rfl)
  obtain ⟨oL, es, ep, hL, hLd, hLk⟩ := n
  have tk : TupKeep s.heap h' := .sameBut hs hL fun vs n q => by rw [hLd] at q; cases q
  refine h _ ⟨⟨⟨S.toSt.toH.os, S.toSt.toH.gens, S.toSt.toH.top, fun b o e => ?_, fun a o e => ?_, S.toSt.toH.apart⟩, ⟨⟨_, n', fun y r' a b => ?_⟩, fun y c e => ?_⟩, S.toSt.hl⟩, S.bl, S.bc⟩ tk
  · refine (hs.2 b fun q => ?_).trans (S.toSt.toH.keep b o e)
    subst q; rw [S.bl] at e; cases e
  · have q : a ≠ C.env.locals := fun q => by subst q; rw [S.toSt.hl] at e; cases e
    exact OR.mono (S.toSt.toH.hr a o e) tk fun ob e' => (hs.2 a q).trans e'
  · by_cases q : y = x
    · subst q
      rw [Lo.put_self] at b; cases b
      exact ⟨v, if_pos rfl, hv.mono tk⟩
    · rw [Lo.put_ne _ _ q] at b
      obtain ⟨u, h1, h2⟩ := hm y r' a b
      exact ⟨u, (if_neg q).trans h1, h2.mono tk⟩
  · obtain ⟨o, h1, h2⟩ := S.toSt.frm.cell y c e
    have hc : c ≠ C.env.locals := fun q => by
      obtain ⟨oc, h3, h4⟩ := h1
      subst q; rw [hL] at h3; cases h3; rw [hLd] at h4; cases h4
    refine ⟨o, h1.sameBut hs hc, fun r' a b => ?_⟩
    have q : y ≠ x := fun q => by
      subst q
      rcases a with a | a <;> (rw [hk] at a; cases a)
    rw [Lo.put_ne _ _ q] at b
    obtain ⟨u, h3, h4⟩ := h2 r' a b
    exact ⟨u, h3, h4.mono tk⟩
end
end Mine
namespace Mine
open PySem PySem.W PySem.Calls PyProof.Rows

section
variable {C : Cx} {σ : Lo} {H : AH} {Qn : Lo → AH → Prop} {Qr : V → AH → Prop}

/-- the place of a cell is stored -/
theorem StW.storeCell {B s x c v r} (S : StW C B σ H s) (hw : C.wr = true) (hv : VR s.heap v r) (hk : C.env.kindOf x = some .cell) (hc : C.env.cells.lookup x = some c) {Q : Unit → Shared → Prop}
    (h : ∀ s', StW C B (σ.put x r) H s' → TupKeep s.heap s'.heap → Q () s') : wpAny C.M C.A (storeName C.env x v) Q Fls s := by
  obtain ⟨o₀, n, hm⟩ := S.toSt.frm.cell x c hc
  refine wpAny_storeName_cell C.kind hk hc n (fun h' n' hs => ?_)
  obtain ⟨oc, hoc, hdc⟩ := n
  have tk : TupKeep s.heap h' := .sameBut hs hoc fun vs n q => by rw [hdc] at q; cases q
  obtain ⟨m, ⟨oL, es, ep, hL, hLd, hLk⟩, hm2⟩ := S.toSt.frm.ns
  have hne : C.env.locals ≠ c := fun q => by
    subst q; rw [hL] at hoc; cases hoc; rw [hLd] at hdc; cases hdc
  refine h _ ⟨⟨⟨S.toSt.toH.os, S.toSt.toH.gens, S.toSt.toH.top, fun b o e => ?_, fun a o e => ?_, S.toSt.toH.apart⟩, ⟨⟨m, ⟨oL, es, ep, (hs.2 _ hne).trans hL, hLd, hLk⟩, fun y r' a b => ?_⟩, fun y c' e => ?_⟩, S.toSt.hl⟩, S.bl, S.bc⟩ tk
  · refine (hs.2 b fun q => ?_).trans (S.toSt.toH.keep b o e)
    subst q; rw [S.bc hw x _ hk hc] at e; cases e
  · have q : a ≠ c := fun q => by subst q; rw [S.toSt.hcell hc] at e; cases e
    exact OR.mono (S.toSt.toH.hr a o e) tk fun ob e' => (hs.2 a q).trans e'
  · have q : y ≠ x := fun q => by subst q; rw [hk] at a; cases a
    rw [Lo.put_ne _ _ q] at b
    obtain ⟨u, h1, h2⟩ := hm2 y r' a b
    exact ⟨u, h1, h2.mono tk⟩
  · by_cases q : c' = c
    · subst q
      obtain rfl := C.inj _ _ _ e hc
      refine ⟨some v, n', fun r' a b => ?_⟩
      rw [Lo.put_self] at b; cases b
      exact ⟨v, rfl, hv.mono tk⟩
    · obtain ⟨o, h1, h2⟩ := S.toSt.frm.cell y c' e
      refine ⟨o, h1.sameBut hs q, fun r' a b => ?_⟩
      have q : y ≠ x := fun q' => by subst q'; rw [hc] at e; cases e; exact q rfl
      rw [Lo.put_ne _ _ q] at b
      obtain ⟨u, h3, h4⟩ := h2 r' a b
      exact ⟨u, h3, h4.mono tk⟩

/-- a name of the frame's own: a local, or a cell that it may write -/
noncomputable abbrev Own (C : Cx) (x : Str) : Prop := C.env.kindOf x = some .local ∨ (C.wr = true ∧ C.env.kindOf x = some .cell)
theorem StW.put {B s x v r} (S : StW C B σ H s) (hv : VR s.heap v r) (o : Own C x) {Q : Unit → Shared → Prop}
    (h : ∀ s', StW C B (σ.put x r) H s' → TupKeep s.heap s'.heap → Q () s') : wpAny C.M C.A (storeName C.env x v) Q Fls s := by
  rcases o with k | ⟨w, k⟩
  · exact S.store hv k h
  · obtain ⟨c, hc⟩ := C.cellAll x k
    exact S.storeCell w hv k hc h

theorem As.name {x pos r} {Q : Lo → AH → Prop} (o : Own C x) (h : Q (σ.put x r) H) : As C (.Name x pos) r σ H Q := fun B s v S hv =>
  wpAny_assign_Name (S.put hv o fun s' S' _ => ⟨_, _, S', h⟩)

noncomputable abbrev KPut (σ : Lo) (x : Str) (Qn : Lo → AH → Prop) : V → AH → Prop := fun r H' => Qn (σ.put x r) H'
noncomputable abbrev KNone (σ : Lo) (Qn : Lo → AH → Prop) : V → AH → Prop := fun r H' => r = .none ∧ Qn σ H'
noncomputable abbrev KIf (C : Cx) (body orelse : List Stmt) (σ : Lo) (Qn : Lo → AH → Prop) (Qr : V → AH → Prop) : Bool → AH → Prop := fun b H' => (b = true → Ex C body σ H' Qn Qr) ∧ (b = false → Ex C orelse σ H' Qn Qr)
noncomputable abbrev KAnd (C : Cx) (y : Expr) (σ : Lo) (Q : Bool → AH → Prop) : Bool → AH → Prop := fun b H' => (b = false → Q false H') ∧ (b = true → Et C y σ H' Q)
noncomputable abbrev KOr (C : Cx) (y : Expr) (σ : Lo) (Q : Bool → AH → Prop) : Bool → AH → Prop := fun b H' => (b = true → Q true H') ∧ (b = false → Et C y σ H' Q)
noncomputable abbrev KNot (Q : Bool → AH → Prop) : Bool → AH → Prop := fun b H' => Q (!b) H'
noncomputable abbrev KIfE (C : Cx) (body orelse : Expr) (σ : Lo) (Q : V → AH → Prop) : Bool → AH → Prop := fun b H' => (b = true → Ev C body σ H' Q) ∧ (b = false → Ev C orelse σ H' Q)
noncomputable abbrev KAndV (C : Cx) (y : Expr) (σ : Lo) (Q : V → AH → Prop) : V → AH → Prop := fun r H' => ∃ b, r = .bool b ∧ (b = false → Q (.bool false) H') ∧ (b = true → Ev C y σ H' Q)
noncomputable abbrev KOrV (C : Cx) (y : Expr) (σ : Lo) (Q : V → AH → Prop) : V → AH → Prop := fun r H' => ∃ b, r = .bool b ∧ (b = true → Q (.bool true) H') ∧ (b = false → Ev C y σ H' Q)
noncomputable abbrev KNotV (Q : V → AH → Prop) : V → AH → Prop := fun r H' => ∃ b, r = .bool b ∧ Q (.bool !b) H'
noncomputable abbrev KCh3 (C : Cx) (c : Expr) (t : List Value → Sem Value) (σ : Lo) (Q : Bool → AH → Prop) (rb : V) : V → AH → Prop := fun z H₃ => ∃ z', z = .bool z' ∧ (z' = false → Q false H₃) ∧ (z' = true → Ev C c σ H₃ (KDo C rb t (KB Q)))
noncomputable abbrev KCh2 (C : Cx) (c : Expr) (t1 t2 : List Value → Sem Value) (σ : Lo) (Q : Bool → AH → Prop) (ra : V) : V → AH → Prop := fun rb H₂ => Do C.G C.A [ra, rb] H₂ t1 (KCh3 C c t2 σ Q rb)
noncomputable abbrev KCh (C : Cx) (b c : Expr) (t1 t2 : List Value → Sem Value) (σ : Lo) (Q : Bool → AH → Prop) : V → AH → Prop := fun ra H₁ => Ev C b σ H₁ (KCh2 C c t1 t2 σ Q ra)
theorem Ex1.assign {x pos' value pos} (o : Own C x) (h : Ev C value σ H (KPut σ x Qn))
    (hs : swapsWith value (some (.Name x pos')) pos.line C.env = pure false := by kernel_rfl) : Ex1 C (.Assign [.Name x pos'] value pos) σ H Qn Qr := fun B s S =>
  wpAny_Assign_Name (h.use S.toSt fun u s₁ a H₁ v1 S1 _ h1 => (S.st S1).put v1 o fun s' S' _ => ⟨_, _, S', h1⟩) hs

theorem Ex1.aug {x pos' op value pos r} (o : Own C x) (h0 : ∀ p, Ev C (.Name x p) σ H fun a H' => a = r ∧ H' = H)
    (h : Ev C value σ H (KDo C r (fun vs => inplaceOp op (vs.getD 0 .none) (vs.getD 1 .none)) (KPut σ x Qn)))
    (hd : (x == ("__debug__" : Str)) = false := by kernel_rfl) : Ex1 C (.AugAssign (.Name x pos') op value pos) σ H Qn Qr := fun B s S => by
  refine wpAny_AugAssign_Name ?_
  have e : wpAny C.M C.A (loadName C.env x) (fun u s' => ∃ r' H', VR s'.heap u r' ∧ St C B σ H' s' ∧ TupKeep s.heap s'.heap ∧ r' = r ∧ H' = H) Fls s := by
    intro Γ p hΓ
    have z := (h0 p).go S.toSt
    rw [eval_Name C.env x p hd] at z
    have z := z Γ p hΓ
    rw [Sem.wp_bind', Sem.wp_cmd_standAt] at z
    exact z
  refine wpAny_mono e (fun u s₁ hz => ?_) fun _ _ x => x
  obtain ⟨a, H₁, v1, S1, _, ea, eh⟩ := hz
  subst ea eh
  refine h.use S1 fun v s₂ b H₂ v2 S2 t2 h2 => ?_
  refine wpAny_mono (frame S2 (rel := VR) (t := inplaceOp op u v) fun B' S2' => h2 B' s₂ [u, v] S2'.toH (.cons (v1.mono t2) (.cons v2 .nil))) (fun w s₃ hz => ?_) fun _ _ x => x
  obtain ⟨c, H₃, v3, S3, _, h3⟩ := hz
  exact (S.st S3).put v3 o fun s' S' _ => ⟨_, _, S', h3⟩

theorem Ex1.expr {e pos} (h : Ev C e σ H (KNone σ Qn)) (hi : interactive C.env = false := by kernel_rfl) (hs : swapsWith e none pos.line C.env = pure false := by kernel_rfl) :
    Ex1 C (.Expr e pos) σ H Qn Qr := fun B s S =>
  wpAny_Expr (h.use S.toSt fun u s₁ a H₁ v1 S1 _ ⟨e1, h1⟩ => by subst e1; obtain rfl := v1.n; exact ⟨_, _, S.st S1, h1⟩) hi hs

theorem Ex1.if_ {test body orelse pos} (h : Et C test σ H (KIf C body orelse σ Qn Qr)) : Ex1 C (.If test body orelse pos) σ H Qn Qr := fun B s S =>
  wpAny_If (h.use S.toSt fun b s₁ b' H₁ v1 S1 _ ⟨h1, h2⟩ => by
    subst v1
    cases b with
    | true => rw [if_pos rfl]; exact h1 rfl B s₁ (S.st S1)
    | false => rw [if_neg Bool.false_ne_true]; exact h2 rfl B s₁ (S.st S1))

theorem Ex1.ret {e pos} (h : Ev C e σ H Qr) : Ex1 C (.Return (some e) pos) σ H Qn Qr := fun B s S =>
  wpAny_Return_some (h.use S.toSt fun u s₁ a H₁ v1 S1 _ h1 => ⟨a, H₁, v1, S1.toH, h1⟩)
theorem Ex1.ret0 {pos} (h : Qr .none H) : Ex1 C (.Return none pos) σ H Qn Qr := fun B s S => wpAny_Return_none ⟨.none, H, .none, S.toSt.toH, h⟩

/-- a while by an invariant and a measure -/
theorem Ex1.while_ {test body pos} (I : Nat → Lo → AH → Prop) (n : Nat) (h0 : I n σ H)
    (turn : ∀ n σ H, I n σ H → Et C test σ H fun b H' => (b = true → Ex C body σ H' (fun σ' H' => ∃ m, m < n ∧ I m σ' H') Qr) ∧ (b = false → Qn σ H')) :
    Ex1 C (.While test body [] pos) σ H Qn Qr := fun B s S => by
  refine wpAny_While ?_
  have key : codeAny C.M C.A (.whileLoop test body [] C.env) (fun r s' => match r with | .ok f => PostS C B Qn Qr f s' | .error _ => False) s := by
    refine codeAny_whileLoop (fun n s => ∃ σ H, StW C B σ H s ∧ I n σ H) (fun n s ⟨σ, H, S, i⟩ => ?_) n ⟨σ, H, S, h0⟩
    refine (turn n σ H i).use S.toSt fun b s₁ b' H₁ v1 S1 _ ⟨h1, h2⟩ => ?_
    subst v1
    cases b with
    | true =>
      rw [if_pos rfl]
      refine wpF_mono (h1 rfl B s₁ (S.st S1)) (fun f s₂ x => ?_)
      cases f with
      | next => obtain ⟨σ', H', S', m, hm, i'⟩ := x; exact ⟨m, hm, σ', H', S', i'⟩
      | ret v => exact x
      | brk => exact x.elim
      | cont => exact x.elim
    | false =>
      rw [if_neg Bool.false_ne_true]
      exact wpAny_execs_nil ⟨σ, H₁, S.st S1, h2 rfl⟩
  exact codeAny_mono key fun r s' x => by cases r with | ok f => exact x | error e => exact x.elim

/-- tests -/
theorem Et.not {x pos} {Q : Bool → AH → Prop} (h : Et C x σ H (KNot Q)) : Et C (.UnaryOp .Not x pos) σ H Q := fun B s S => by
  rw [arm_isTrue_UnaryOp]
  exact wpAny_bind (wpAny_mono (h B s S) (fun u s₁ ⟨a, H₁, v1, S1, h1⟩ => by subst v1; exact wpAny_pure ⟨_, H₁, rfl, S1, h1⟩) fun _ _ x => x)
theorem Et.and {x y pos} {Q : Bool → AH → Prop} (h : Et C x σ H (KAnd C y σ Q)) : Et C (.BoolOp .And [x, y] pos) σ H Q := fun B s S => by
  rw [arm_isTrue_BoolOp, arm_allTrue_cons]
  refine wpAny_bind (h.use S fun u s₁ a H₁ v1 S1 _ ⟨h1, h2⟩ => ?_)
  subst v1
  cases u with
  | false => exact wpAny_pure ⟨_, H₁, rfl, S1.toH, h1 rfl⟩
  | true =>
    show wpAny _ _ (allTrue .And [y] C.env) _ _ _
    rw [arm_allTrue_cons]
    refine wpAny_bind (wpAny_mono (h2 rfl B s₁ S1) (fun u s₂ hz => ?_) fun _ _ x => x)
    obtain ⟨a, H₂, v2, S2, h3⟩ := hz
    subst v2
    cases u with
    | false => exact wpAny_pure ⟨_, H₂, rfl, S2, h3⟩
    | true => exact wpAny_pure ⟨_, H₂, rfl, S2, h3⟩
theorem Et.or {x y pos} {Q : Bool → AH → Prop} (h : Et C x σ H (KOr C y σ Q)) : Et C (.BoolOp .Or [x, y] pos) σ H Q := fun B s S => by
  rw [arm_isTrue_BoolOp, arm_allTrue_cons]
  refine wpAny_bind (h.use S fun u s₁ a H₁ v1 S1 _ ⟨h1, h2⟩ => ?_)
  subst v1
  cases u with
  | true => exact wpAny_pure ⟨_, H₁, rfl, S1.toH, h1 rfl⟩
  | false =>
    show wpAny _ _ (allTrue .Or [y] C.env) _ _ _
    rw [arm_allTrue_cons]
    refine wpAny_bind (wpAny_mono (h2 rfl B s₁ S1) (fun u s₂ hz => ?_) fun _ _ x => x)
    obtain ⟨a, H₂, v2, S2, h3⟩ := hz
    subst v2
    cases u with
    | false => exact wpAny_pure ⟨_, H₂, rfl, S2, h3⟩
    | true => exact wpAny_pure ⟨_, H₂, rfl, S2, h3⟩
/-- a test that is a value: a bool -/
theorem Et.val {e} {Q : Bool → AH → Prop} (h : Ev C e σ H (KB Q))
    (he : isTrue e C.env (eval e C.env) = (do let v ← eval e C.env; standAt e.pos; holding [v] (truthy v)) := by with_unfolding_all rfl) : Et C e σ H Q := fun B s S =>
  isTrue_plain (wpAny_mono (h B s S) (fun u s₁ ⟨a, H₁, v1, S1, b, e1, h1⟩ => by subst e1; obtain rfl := v1.b; exact wpAny_truthy_bool ⟨b, H₁, rfl, S1, h1⟩) fun _ _ x => x) he
/-- a test of a text constant or the like is not met here -/
theorem Ev.ifexp {test body orelse pos} {Q : V → AH → Prop} (h : Et C test σ H (KIfE C body orelse σ Q)) : Ev C (.IfExp test body orelse pos) σ H Q := fun B s S => by
  rw [arm_eval_IfExp]
  refine wpAny_bind (h.use S fun b s₁ b' H₁ v1 S1 _ ⟨h1, h2⟩ => ?_)
  subst v1
  cases b with
  | true => rw [if_pos rfl]; exact h1 rfl B s₁ S1
  | false => rw [if_neg Bool.false_ne_true]; exact h2 rfl B s₁ S1
/-- and, or as values, of bools -/
theorem Ev.and {x y pos} {Q : V → AH → Prop} (h : Ev C x σ H (KAndV C y σ Q)) : Ev C (.BoolOp .And [x, y] pos) σ H Q := fun B s S => by
  rw [arm_eval_BoolOp]
  show wpAny _ _ (do let v ← eval x C.env; standAt pos; let t ← holding [v] (truthy v); match BoolOp.And, t with | .And, false | .Or, true => pure v | _, _ => boolOp pos .And [eval y C.env]) _ _ _
  refine wpAny_bind (h.use S fun u s₁ a H₁ v1 S1 _ hz => ?_)
  obtain ⟨b, e, h1, h2⟩ := hz
  subst e; obtain rfl := v1.b
  refine wpAny_bind (wpAny_standAt (wpAny_bind (wpAny_holding (wpAny_truthy_bool ?_))))
  cases b with
  | false => exact wpAny_pure ⟨_, H₁, .bool _, S1.toH, h1 rfl⟩
  | true => exact h2 rfl B s₁ S1
theorem Ev.or {x y pos} {Q : V → AH → Prop} (h : Ev C x σ H (KOrV C y σ Q)) : Ev C (.BoolOp .Or [x, y] pos) σ H Q := fun B s S => by
  rw [arm_eval_BoolOp]
  show wpAny _ _ (do let v ← eval x C.env; standAt pos; let t ← holding [v] (truthy v); match BoolOp.Or, t with | .And, false | .Or, true => pure v | _, _ => boolOp pos .Or [eval y C.env]) _ _ _
  refine wpAny_bind (h.use S fun u s₁ a H₁ v1 S1 _ hz => ?_)
  obtain ⟨b, e, h1, h2⟩ := hz
  subst e; obtain rfl := v1.b
  refine wpAny_bind (wpAny_standAt (wpAny_bind (wpAny_holding (wpAny_truthy_bool ?_))))
  cases b with
  | true => exact wpAny_pure ⟨_, H₁, .bool _, S1.toH, h1 rfl⟩
  | false => exact h2 rfl B s₁ S1
theorem Ev.not {x pos} {Q : V → AH → Prop} (h : Ev C x σ H (KNotV Q)) : Ev C (.UnaryOp .Not x pos) σ H Q := fun B s S => by
  rw [arm_eval_UnaryOp]
  refine wpAny_bind (wpAny_mono (h B s S) (fun u s₁ hz => ?_) fun _ _ x => x)
  obtain ⟨a, H₁, v1, S1, b, e, h1⟩ := hz
  subst e; obtain rfl := v1.b
  exact wpAny_bind (wpAny_standAt (wpAny_holding (not_of (wpAny_truthy_bool ⟨_, H₁, .bool _, S1, h1⟩))))
/-- a chain of two comparisons -/
theorem Et.chain {a b c op1 op2 pos} {Q : Bool → AH → Prop}
    (h : Ev C a σ H (KCh C b c (fun vs => compareOp op1 (vs.getD 0 .none) (vs.getD 1 .none)) (fun vs => compareOp op2 (vs.getD 0 .none) (vs.getD 1 .none)) σ Q))
    (hm : markedEach [op1, op2] [b, c] (evalEach [b, c] C.env) = [eval b C.env, eval c C.env] := by kernel_rfl) : Et C (.Compare a [op1, op2] [b, c] pos) σ H Q := fun B s S => by
  rw [arm_isTrue_Compare, hm]
  refine wpAny_bind (h.use S fun u s₁ ra H₁ v1 S1 _ h1 => ?_)
  show wpAny _ _ (do
    let rv ← holding [u] (eval b C.env)
    standAt pos
    let c' ← holding [u, rv] (compareOp op1 u rv)
    release [u, rv] [c']
    if ← holding [c', rv] (truthy c') then testChain pos rv [op2] [eval c C.env] else pure false) _ _ _
  refine wpAny_bind (wpAny_holding (h1.use S1 fun v s₂ rb H₂ v2 S2 t2 h2 => ?_))
  refine wpAny_bind (wpAny_standAt (wpAny_bind (wpAny_holding ?_)))
  refine wpAny_mono (frame S2 (rel := VR) (t := compareOp op1 u v) fun B' S2' => h2 B' s₂ [u, v] S2'.toH (.cons (v1.mono t2) (.cons v2 .nil))) (fun w s₃ hz => ?_) fun _ _ x => x
  obtain ⟨z, H₃, v3, S3, t3, z', e, q1, q2⟩ := hz
  subst e; cases v3
  have rel : ∀ {t : Sem Bool} {Q'}, wpAny C.M C.A t Q' Fls s₃ → wpAny C.M C.A (release [u, v] [Value.bool z'] >>= fun _ => t) Q' Fls s₃ := fun ht => wpAny_bind (fun Γ p hΓ => by
    rw [Sem.wp_release]; exact ht)
  refine rel (wpAny_bind (wpAny_holding (wpAny_truthy_bool ?_)))
  cases z' with
  | false => rw [if_neg Bool.false_ne_true]; exact wpAny_pure ⟨_, H₃, rfl, S3.toH, q1 rfl⟩
  | true =>
    rw [if_pos rfl]
    show wpAny _ _ (do
      let rv ← holding [v] (eval c C.env)
      standAt pos
      let c' ← operate [v, rv] (compareOp op2 v rv)
      holding [c'] (truthy c')) _ _ _
    refine wpAny_bind (wpAny_holding ((q2 rfl).use S3 fun w s₄ rc H₄ v4 S4 t4 h4 => ?_))
    refine wpAny_bind (wpAny_standAt (wpAny_bind (wpAny_operating ?_)))
    refine wpAny_mono (h4 B s₄ [v, w] S4.toH (.cons ((v2.mono t3).mono t4) (.cons v4 .nil))) (fun x s₅ hz => ?_) fun _ _ x => x
    obtain ⟨y, H₅, v5, S5, y', e, q⟩ := hz
    subst e; cases v5
    exact wpAny_holding (wpAny_truthy_bool ⟨_, H₅, rfl, S5, q⟩)
end
end Mine
namespace Mine
open PySem PySem.W PySem.Calls PyProof.Rows

noncomputable abbrev bin (op : Operator) : List Value → Sem Value := fun vs => binaryOp op (vs.getD 0 .none) (vs.getD 1 .none)
noncomputable abbrev inp (op : Operator) : List Value → Sem Value := fun vs => inplaceOp op (vs.getD 0 .none) (vs.getD 1 .none)
noncomputable abbrev cmp (op : CmpOp) : List Value → Sem Value := fun vs => compareOp op (vs.getD 0 .none) (vs.getD 1 .none)

section
variable {G : Gl} {A : Around} {H : AH} {Q : V → AH → Prop} {a b : Int} {p q : Bool} {x y : Str}

theorem VRs.two {h vs r1 r2} (R : VRs h vs [r1, r2]) : ∃ u v, vs = [u, v] ∧ VR h u r1 ∧ VR h v r2 := by
  obtain ⟨_, _, rfl, a, R⟩ := R.c; obtain ⟨_, _, rfl, b, R⟩ := R.c; obtain rfl := R.n; exact ⟨_, _, rfl, a, b⟩
theorem VRs.one {h vs r1} (R : VRs h vs [r1]) : ∃ u, vs = [u] ∧ VR h u r1 := by
  obtain ⟨_, _, rfl, a, R⟩ := R.c; obtain rfl := R.n; exact ⟨_, rfl, a⟩
theorem VRs.three {h vs r1 r2 r3} (R : VRs h vs [r1, r2, r3]) : ∃ u v w, vs = [u, v, w] ∧ VR h u r1 ∧ VR h v r2 ∧ VR h w r3 := by
  obtain ⟨_, _, rfl, a, R⟩ := R.c; obtain ⟨_, _, rfl, b, R⟩ := R.c; obtain ⟨_, _, rfl, c, R⟩ := R.c; obtain rfl := R.n; exact ⟨_, _, _, rfl, a, b, c⟩

/-- two values, the heap as it was -/
theorem Do.two {r1 r2 : V} {t : Value → Value → Sem Value} (h : ∀ B s u v, StH G B H s → VR s.heap u r1 → VR s.heap v r2 → wpAny G.M A (t u v) (PostV G B Q) Fls s) :
    Do G A [r1, r2] H (fun vs => t (vs.getD 0 .none) (vs.getD 1 .none)) Q := fun B s vs S R => by
  obtain ⟨u, v, rfl, h1, h2⟩ := R.two
  exact h B s u v S h1 h2
theorem Do.one {r1 : V} {t : Value → Sem Value} (h : ∀ B s u, StH G B H s → VR s.heap u r1 → wpAny G.M A (t u) (PostV G B Q) Fls s) :
    Do G A [r1] H (fun vs => t (vs.getD 0 .none)) Q := fun B s vs S R => by
  obtain ⟨u, rfl, h1⟩ := R.one
  exact h B s u S h1
theorem PostV.mk' {B s u r} (S : StH G B H s) (v : VR s.heap u r) (h : Q r H) : PostV G B Q u s := ⟨r, H, v, S, h⟩

theorem Do.add (h : Q (.int (a + b)) H) : Do G A [.int a, .int b] H (bin .Add) Q := .two fun B s u v S x y => by
  obtain ⟨_, rfl⟩ := x.i; obtain ⟨_, rfl⟩ := y.i; exact add_int (PostV.mk' (S.tok _) (.int _ _) h)
theorem Do.sub (h : Q (.int (a - b)) H) : Do G A [.int a, .int b] H (bin .Sub) Q := .two fun B s u v S x y => by
  obtain ⟨_, rfl⟩ := x.i; obtain ⟨_, rfl⟩ := y.i; exact sub_int (PostV.mk' (S.tok _) (.int _ _) h)
theorem Do.mod (h0 : b ≠ 0) (h : Q (.int (a.fmod b)) H) : Do G A [.int a, .int b] H (bin .Mod) Q := .two fun B s u v S x y => by
  obtain ⟨_, rfl⟩ := x.i; obtain ⟨_, rfl⟩ := y.i; exact mod_int' h0 (PostV.mk' (S.tok _) (.int _ _) h)
theorem Do.fdiv (h0 : b ≠ 0) (hn : Builtin.divisionGoesByPylong a b = false) (h : Q (.int (a.fdiv b)) H) : Do G A [.int a, .int b] H (bin .FloorDiv) Q := .two fun B s u v S x y => by
  obtain ⟨_, rfl⟩ := x.i; obtain ⟨_, rfl⟩ := y.i; exact floordiv_int h0 (PostV.mk' (S.tok _) (.int _ _) h) (.inl hn)
theorem Do.lt (h : Q (.bool (decide (a < b))) H) : Do G A [.int a, .int b] H (cmp .Lt) Q := .two fun B s u v S x y => by
  obtain ⟨_, rfl⟩ := x.i; obtain ⟨_, rfl⟩ := y.i; exact lt_int (PostV.mk' S (.bool _) h)
theorem Do.le (h : Q (.bool (decide (a ≤ b))) H) : Do G A [.int a, .int b] H (cmp .LtE) Q := .two fun B s u v S x y => by
  obtain ⟨_, rfl⟩ := x.i; obtain ⟨_, rfl⟩ := y.i; exact le_int (PostV.mk' S (.bool _) h)
theorem Do.gt (h : Q (.bool (decide (a > b))) H) : Do G A [.int a, .int b] H (cmp .Gt) Q := .two fun B s u v S x y => by
  obtain ⟨_, rfl⟩ := x.i; obtain ⟨_, rfl⟩ := y.i; exact gt_int (PostV.mk' S (.bool _) h)
theorem Do.ge (h : Q (.bool (decide (a ≥ b))) H) : Do G A [.int a, .int b] H (cmp .GtE) Q := .two fun B s u v S x y => by
  obtain ⟨_, rfl⟩ := x.i; obtain ⟨_, rfl⟩ := y.i; exact ge_int (PostV.mk' S (.bool _) h)
theorem Do.eq (h : Q (.bool (a == b)) H) : Do G A [.int a, .int b] H (cmp .Eq) Q := .two fun B s u v S x y => by
  obtain ⟨_, rfl⟩ := x.i; obtain ⟨_, rfl⟩ := y.i; exact eq_int (PostV.mk' S (.bool _) h)
theorem Do.ne (h : Q (.bool (a != b)) H) : Do G A [.int a, .int b] H (cmp .NotEq) Q := .two fun B s u v S x y => by
  obtain ⟨_, rfl⟩ := x.i; obtain ⟨_, rfl⟩ := y.i; exact ne_int (PostV.mk' S (.bool _) h)
theorem Do.eqStr (h : Q (.bool (x == y)) H) : Do G A [.str x, .str y] H (cmp .Eq) Q := .two fun B s u v S x y => by
  obtain ⟨_, rfl⟩ := x.s; obtain ⟨_, rfl⟩ := y.s; exact eq_str (PostV.mk' S (.bool _) h)
theorem Do.neStr (h : Q (.bool (x != y)) H) : Do G A [.str x, .str y] H (cmp .NotEq) Q := .two fun B s u v S x y => by
  obtain ⟨_, rfl⟩ := x.s; obtain ⟨_, rfl⟩ := y.s; exact ne_str (PostV.mk' S (.bool _) h)
theorem Do.eqBool (h : Q (.bool (p == q)) H) : Do G A [.bool p, .bool q] H (cmp .Eq) Q := .two fun B s u v S x y => by
  obtain rfl := x.b; obtain rfl := y.b; exact eq_bool (PostV.mk' S (.bool _) h)
theorem Do.neBool (h : Q (.bool (p != q)) H) : Do G A [.bool p, .bool q] H (cmp .NotEq) Q := .two fun B s u v S x y => by
  obtain rfl := x.b; obtain rfl := y.b; exact ne_bool (PostV.mk' S (.bool _) h)
theorem Do.iadd (h : Q (.int (a + b)) H) : Do G A [.int a, .int b] H (inp .Add) Q := .two fun B s u v S x y => by
  obtain ⟨_, rfl⟩ := x.i; obtain ⟨_, rfl⟩ := y.i; exact iadd_int (PostV.mk' (S.tok _) (.int _ _) h)
end

section
variable {G : Gl} {A : Around} {H : AH} {Q : V → AH → Prop}
theorem Do.mul {a b : Int} (ha : a.natAbs < 2 ^ 63) (h : Q (.int (a * b)) H) : Do G A [.int a, .int b] H (bin .Mult) Q := .two fun B s u v S x y => by
  obtain ⟨_, rfl⟩ := x.i; obtain ⟨_, rfl⟩ := y.i; exact mul_int (PostV.mk' (S.tok _) (.int _ _) h) (.of_left (intBits_le_64 (by omega) (by omega)))
theorem Do.fdivS {a b : Int} (h0 : b ≠ 0) (hn : b.natAbs < 1073741824) (h : Q (.int (a.fdiv b)) H) : Do G A [.int a, .int b] H (bin .FloorDiv) Q := .fdiv h0 (PyProof.noPylong_small hn) h

/-- values that are no containers -/
noncomputable def V.scal : V → Bool
  | .none | .bool _ | .int _ | .str _ => true
  | _ => false
/-- == of them -/
noncomputable def V.eqS : V → V → Bool
  | .none, .none => true
  | .bool a, .bool b => a == b
  | .int a, .int b => a == b
  | .str a, .str b => a == b
  | .bool a, .int b => (if a then 1 else 0) == b
  | .int a, .bool b => a == (if b then 1 else 0)
  | _, _ => false
inductive Sc : Value → V → Prop
  | none : Sc .none .none
  | bool (b : Bool) : Sc (.bool b) (.bool b)
  | int (i : Int) (t : Tok) : Sc (.int i t) (.int i)
  | str (i : Str) (t : Tok) : Sc (.str i t) (.str i)
theorem VR.sc {h : Heap} {v r} (x : VR h v r) (s : r.scal = true) : Sc v r := by
  cases x with
  | none => exact .none
  | bool b => exact .bool b
  | int i t => exact .int i t
  | str i t => exact .str i t
  | ref a => cases s
  | lit v => cases s
  | tup => cases s
theorem eqS_core {B s u v r1 r2} (p : Sc u r1) (q : Sc v r2) (fin : ∀ b, b = V.eqS r1 r2 → PostV G B Q (.bool b) s) : wpAny G.M A (richCompare .Eq u v) (PostV G B Q) Fls s := by
  cases p <;> cases q
  · exact SeqAt.RcAt.none_none _ _ _ _ (fin _ rfl)
  · exact SeqAt.RcAt.none_bool _ _ _ _ _ (fin _ rfl)
  · exact SeqAt.RcAt.none_int _ _ _ _ _ _ (fin _ rfl)
  · exact SeqAt.RcAt.none_str _ _ _ _ _ _ (fin _ rfl)
  · exact SeqAt.RcAt.bool_none _ _ _ _ _ (fin _ rfl)
  · exact SeqAt.RcAt.bool_bool _ _ _ _ _ _ (fin _ rfl)
  · exact SeqAt.RcAt.bool_int _ _ _ _ _ _ _ (fin _ rfl)
  · exact SeqAt.RcAt.bool_str _ _ _ _ _ _ _ (fin _ rfl)
  · exact SeqAt.RcAt.int_none _ _ _ _ _ _ (fin _ rfl)
  · exact SeqAt.RcAt.int_bool _ _ _ _ _ _ _ (fin _ rfl)
  · exact SeqAt.RcAt.int_int _ _ _ _ _ _ _ _ (fin _ rfl)
  · exact SeqAt.RcAt.int_str _ _ _ _ _ _ _ _ (fin _ rfl)
  · exact SeqAt.RcAt.str_none _ _ _ _ _ _ (fin _ rfl)
  · exact SeqAt.RcAt.str_bool _ _ _ _ _ _ _ (fin _ rfl)
  · exact SeqAt.RcAt.str_int _ _ _ _ _ _ _ _ (fin _ rfl)
  · exact SeqAt.RcAt.str_str _ _ _ _ _ _ _ _ (fin _ rfl)
theorem Do.eqS {r1 r2 : V} (h1 : r1.scal = true) (h2 : r2.scal = true) (h : Q (.bool (V.eqS r1 r2)) H) : Do G A [r1, r2] H (cmp .Eq) Q := .two fun B s u v S x y =>
  eqS_core (x.sc h1) (y.sc h2) fun b e => by subst e; exact PostV.mk' S (.bool _) h

/-- the heap grows by what the abstract one does not hold -/
theorem StH.push {B s} (S : StH G B H s) (ob : Obj) : StH G B H { s with heap := s.heap.push ob } where
  os := S.os
  gens := S.gens
  top := S.top
  keep := fun b o e => Heap.get?_push_of_some _ (S.keep b o e)
  hr := fun a o e => OR.mono (S.hr a o e) (.of_keep fun b o e => Heap.get?_push_of_some _ e) fun ob e => Heap.get?_push_of_some _ e
  apart := S.apart
theorem StH.fresh {B s} (S : StH G B H s) : H s.heap.objs.size = none ∧ B s.heap.objs.size = none := by
  constructor
  · cases q : H s.heap.objs.size with
    | none => rfl
    | some o => obtain ⟨ob, e, _⟩ := (S.hr _ _ q).obj; exact absurd (Heap.lt_size e) (Nat.lt_irrefl _)
  · cases q : B s.heap.objs.size with
    | none => rfl
    | some o => exact absurd (Heap.lt_size (S.keep _ _ q)) (Nat.lt_irrefl _)
theorem TupKeep.push (h : Heap) (o : Obj) : TupKeep h (h.push o) := .of_keep fun b o e => Heap.get?_push_of_some _ e
/-- a new object of the abstract heap's -/
theorem StH.put {B s a o} (S : StH G B H s) (hB : B a = none) (ho : OR G.prog G.w s.heap a o) : StH G B (H.put a o) s where
  os := S.os
  gens := S.gens
  top := S.top
  keep := S.keep
  hr := fun b o' e => by
    by_cases q : b = a
    · subst q; rw [AH.put_self] at e; cases e; exact ho
    · rw [AH.put_ne _ _ q] at e; exact S.hr b o' e
  apart := fun b o' e => by
    by_cases q : b = a
    · subst q; exact hB
    · rw [AH.put_ne _ _ q] at e; exact S.apart b o' e
theorem StH.new {B s} (S : StH G B H s) (ob : Obj) (o : AO) (ho : OR G.prog G.w (s.heap.push ob) s.heap.objs.size o) : StH G B (H.put s.heap.objs.size o) { s with heap := s.heap.push ob } :=
  (S.push ob).put S.fresh.2 ho
theorem StH.tk {B s a o h'} (S : StH G B H s) (ha : H a = some o) (hs : Heap.SameBut a s.heap h') : TupKeep s.heap h' := fun b ob vs n e c d => by
  by_cases q : b = a
  · subst q
    obtain ⟨ob', e', h2, _⟩ := (S.hr _ _ ha).obj
    rw [e] at e'; cases e'
    exact absurd d (h2 _ _ c)
  · exact (hs.2 b q).trans e
/-- an object of the abstract heap's turns -/
theorem StH.upd {B s a o o' h'} (S : StH G B H s) (ha : H a = some o) (hs : Heap.SameBut a s.heap h') (ho : OR G.prog G.w h' a o') : StH G B (H.put a o') { s with heap := h' } where
  os := S.os
  gens := S.gens
  top := S.top
  keep := fun b ob e => (hs.2 b fun q => by subst q; rw [S.apart _ _ ha] at e; cases e).trans (S.keep b ob e)
  hr := fun b o' e => by
    by_cases q : b = a
    · subst q; rw [AH.put_self] at e; cases e; exact ho
    · rw [AH.put_ne _ _ q] at e; exact OR.mono (S.hr b o' e) (S.tk ha hs) fun ob e => (hs.2 b q).trans e
  apart := fun b o' e => by
    by_cases q : b = a
    · subst q; exact S.apart _ _ ha
    · rw [AH.put_ne _ _ q] at e; exact S.apart b o' e

theorem OR.mkList {prog w h a vs n l} (e : h.get? a = some (listOf vs n)) (v : VRs h vs.toList l) (z : l.length ≤ 2 ^ 21) : OR prog w h a (.list l) := ⟨vs, n, e, v, z⟩
end

section
variable {C : Cx} {σ : Lo} {H : AH}
theorem Es.nil {Q : List V → AH → Prop} (h : Q [] H) : Es C [] σ H Q := fun B s S pos => spliced_nil ⟨[], H, .nil, S.toH, h⟩
noncomputable abbrev KCons2 (r : V) (Q : List V → AH → Prop) : List V → AH → Prop := fun rs H₂ => Q (r :: rs) H₂
noncomputable abbrev KCons (C : Cx) (es : List Expr) (σ : Lo) (Q : List V → AH → Prop) : V → AH → Prop := fun r H₁ => Es C es σ H₁ (KCons2 r Q)
noncomputable abbrev KList (Q : V → AH → Prop) : List V → AH → Prop := fun rs H' => rs.length ≤ 2 ^ 20 ∧ ∀ a, H' a = Option.none → Q (.ref a) (H'.put a (.list rs))
noncomputable abbrev KTup (Q : V → AH → Prop) : List V → AH → Prop := fun rs H' => rs.length ≤ 2 ^ 20 ∧ Q (.tup rs) H'
theorem Es.cons {e es} {Q : List V → AH → Prop} (h : Ev C e σ H (KCons C es σ Q))
    (he : starEach (e :: es) C.env = (false, eval e C.env) :: starEach es C.env := by with_unfolding_all rfl) : Es C (e :: es) σ H Q := fun B s S pos => by
  rw [he]
  show wpAny _ _ (spliced ((false, eval e C.env) :: backTo pos (starEach es C.env))) _ _ _
  refine spliced_cons (h.use S fun u s₁ a H₁ v1 S1 _ h1 => ?_)
  refine wpAny_mono (frame S1 (rel := VRs) (t := spliced (backTo pos (starEach es C.env))) fun B' S1' => h1 B' s₁ S1' pos) (fun us s₂ hz => ?_) fun _ _ x => x
  obtain ⟨rs, H₂, v2, S2, t2, h2⟩ := hz
  exact ⟨_, H₂, .cons (v1.mono t2) v2, S2.toH, h2⟩
theorem Es.go {es Q B s} (h : Es C es σ H Q) (S : St C B σ H s) (pos : Pos) :
    wpAny C.M C.A (spliced (backTo pos (starEach es C.env))) (fun u s' => ∃ r H', VRs s'.heap u r ∧ St C B σ H' s' ∧ TupKeep s.heap s'.heap ∧ Q r H') Fls s := frame S fun B S => h B s S pos

theorem Es.use {es Q B s} (h : Es C es σ H Q) (S : St C B σ H s) (pos : Pos) {Q' : List Value → Shared → Prop} {E : Value → Shared → Prop} (k : ∀ u s' r H', VRs s'.heap u r → St C B σ H' s' → TupKeep s.heap s'.heap → Q r H' → Q' u s') :
    wpAny C.M C.A (spliced (backTo pos (starEach es C.env))) Q' E s :=
  wpF_mono (h.go S pos) fun u s' z => by obtain ⟨r, H', a, b, c, d⟩ := z; exact k u s' r H' a b c d
theorem Ev.list {es pos} {Q : V → AH → Prop} (h : Es C es σ H (KList Q)) : Ev C (.List es pos) σ H Q := fun B s S => by
  refine wpAny_List_spliced (wpAny_mono (h B s S pos) (fun us s₁ hz => ?_) fun _ _ x => x)
  obtain ⟨rs, H', v, S1, z, q⟩ := hz
  refine ⟨by rw [v.length, sizeLine_eq]; omega, _, _, .ref _, S1.new _ (.list rs) (.mkList (Heap.get?_push_size _ rfl) (v.mono (.push _ _)) (by omega)), q _ S1.fresh.1⟩
theorem Ev.tuple {es k pos} {Q : V → AH → Prop} (h : Es C es σ H (KTup Q)) : Ev C (.Tuple es k pos) σ H Q := fun B s S => by
  refine wpAny_Tuple_spliced (wpAny_mono (h B s S pos) (fun us s₁ hz => ?_) fun _ _ x => x)
  obtain ⟨rs, H', v, S1, z, q⟩ := hz
  exact ⟨by rw [v.length, sizeLine_eq]; omega, _, _, .tup (Heap.get?_push_size _ rfl) rfl rfl (v.mono (.push _ _)), S1.push _, q⟩

theorem Ev.sub {value slice pos} {Q : V → AH → Prop} (h : Ev C value σ H (KBin C slice (fun vs => subscriptTail value slice (vs.getD 0 .none) (vs.getD 1 .none)) σ Q)) :
    Ev C (.Subscript value slice pos) σ H Q := fun B s S => by
  refine Subscript_ (h.use S fun u s₁ a H₁ v1 S1 _ h1 => ?_)
  refine h1.use S1 fun v s₂ b H₂ v2 S2 t2 h2 => ?_
  exact h2 B s₂ [u, v] S2.toH (.cons (v1.mono t2) (.cons v2 .nil))
end

section
variable {G : Gl} {A : Around} {H : AH} {Q : V → AH → Prop}
theorem OR.isList {prog w h a l} (x : OR prog w h a (.list l)) : ∃ vs n, h.get? a = some (listOf vs n) ∧ h.IsList a vs ∧ VRs h vs.toList l ∧ vs.size = l.length ∧ l.length ≤ 2 ^ 21 := by
  obtain ⟨vs, n, e, v, z⟩ := x
  exact ⟨vs, n, e, ⟨_, e, rfl, n, rfl⟩, v, by have := v.length; simpa using this, z⟩

/-- an item of a list, by an index in bounds -/
theorem Do.item {value slice a l} {k : Int} {r : V} (ha : H a = some (.list l)) (h0 : 0 ≤ k) (hr : l[k.toNat]? = some r) (h : Q r H)
    (hs : ∀ u v, subscripted slice false u v = operate [u, v] (getItem u v) := by intro _ _; with_unfolding_all rfl) :
    Do G A [.ref a, .int k] H (fun vs => subscriptTail value slice (vs.getD 0 .none) (vs.getD 1 .none)) Q := .two fun B s u v S x y => by
  obtain rfl := x.r; obtain ⟨_, rfl⟩ := y.i
  obtain ⟨vs, n, e, il, vr, z, z2⟩ := OR.isList (S.hr _ _ ha)
  obtain ⟨x, hx, hv⟩ := vr.get hr
  have hlt : k.toNat < l.length := by
    rw [List.getElem?_eq_some_iff] at hr; exact hr.1
  refine tail_any il.typeIs slot_list_getitem.lookup (wpAny_getItem_list il h0 (by omega) (by rw [← Array.getElem?_toList]; exact hx) ⟨r, H, hv, S, h⟩) (hs _ _)
/-- an item of a list from its end -/
theorem Do.itemNeg {value slice a l} {k : Int} {r : V} (ha : H a = some (.list l)) (h0 : k < 0) (h1 : 0 ≤ k + l.length) (hr : l[(k + l.length).toNat]? = some r) (h : Q r H)
    (hs : ∀ u v, subscripted slice false u v = operate [u, v] (getItem u v) := by intro _ _; with_unfolding_all rfl) :
    Do G A [.ref a, .int k] H (fun vs => subscriptTail value slice (vs.getD 0 .none) (vs.getD 1 .none)) Q := .two fun B s u v S x y => by
  obtain rfl := x.r; obtain ⟨_, rfl⟩ := y.i
  obtain ⟨vs, n, e, il, vr, z, z2⟩ := OR.isList (S.hr _ _ ha)
  obtain ⟨x, hx, hv⟩ := vr.get hr
  refine tail_any il.typeIs slot_list_getitem.lookup (wpAny_getItem_list_neg il h0 (by omega) (by omega) (by rw [z, ← Array.getElem?_toList]; exact hx) ⟨r, H, hv, S, h⟩) (hs _ _)
/-- an item of a tuple -/
theorem Do.itemT {value slice l} {k : Int} {r : V} (h0 : 0 ≤ k) (hk : k < 2 ^ 20) (hr : l[k.toNat]? = some r) (h : Q r H)
    (hs : ∀ u v, subscripted slice false u v = operate [u, v] (getItem u v) := by intro _ _; with_unfolding_all rfl) :
    Do G A [.tup l, .int k] H (fun vs => subscriptTail value slice (vs.getD 0 .none) (vs.getD 1 .none)) Q := .two fun B s u v S x y => by
  cases x with | tup e c d vr =>
  obtain ⟨_, rfl⟩ := y.i
  obtain ⟨x, hx, hv⟩ := vr.get hr
  have hlt : k.toNat < l.length := by
    rw [List.getElem?_eq_some_iff] at hr; exact hr.1
  have z := vr.length
  have it : s.heap.IsTuple _ _ := ⟨_, e, c, _, d⟩
  refine tail_any it.typeIs slot_tuple_getitem.lookup (getItem_tuple it (by omega) (by omega) (seqIndex_of h0 (by rw [← Array.length_toList]; omega)) (by rw [← Array.getElem?_toList]; exact hx) ⟨r, H, hv, S, h⟩) (hs _ _)
end
end Mine
namespace Mine
open PySem PySem.W PySem.Calls PyProof.Rows

/-- what can be called, and how the machine keeps its arguments, is known -/
noncomputable def Kp (G : Gl) (f : Value) : Prop := ∀ h, (∀ b o, G.h₀.get? b = some o → h.get? b = some o) → ∃ k, (k = Keeper.frame ∨ k = Keeper.machine ∨ k = Keeper.boundFrame) ∧ Looks G.M h (keeperOf f) k
theorem Kp.of {G : Gl} {f : Value} (h : keepIn G.K f = true) : Kp G f := fun hp k => keeps_K h hp (G.X.keeps k)
theorem Kp.builtin {G : Gl} {id : String} : Kp G (.builtin id) := fun h _ => ⟨.machine, .inr (.inl rfl), fun h => by
  first | exact Looks.now h | exact Looks.of_pure rfl h⟩
theorem Kp.func {G : Gl} {f : Addr} {o : Obj} {fd : FuncData} (ho : G.h₀.get? f = some o) (hd : o.data = .func fd) : Kp G (.ref f) := fun h k => ⟨.frame, .inl rfl, (Looks.ld (part := none) (k _ _ ho)).andThen (by rw [hd]; exact Looks.now)⟩

theorem StH.X {G : Gl} {B H s} (S : StH G B H s) : G.K.In s.heap := G.X.keeps S.keep0

/-- a call, with the arguments laid -/
noncomputable abbrev Cl (G : Gl) (A : Around) (f : Value) (rs : List V) (H : AH) (Q : V → AH → Prop) : Prop := Do G A rs H (fun vs => call f vs) Q

section
variable {C : Cx} {σ : Lo} {H : AH} {Q : V → AH → Prop}

theorem callWith_plain {B : Addr → Option Obj} {s : Shared} {f : Value} {first : List Value} {rf : List V} {args : List Expr} {pos : Pos} (hk : Kp C.G f)
    (h : Es C args σ H fun rs H' => Cl C.G C.A f (rf ++ rs) H' Q) (S : St C B σ H s) (hf : VRs s.heap first rf)
    (hst : ((backTo pos (starEach args C.env)).any (·.1)) = false := by with_unfolding_all rfl)
    (he : ∀ Q E s, wpAny C.M C.A (spliced (backTo pos (starEach args C.env))) (fun vs s' => Q ⟨vs, []⟩ s') E s → wpAny C.M C.A (evalArgs f true (backTo pos (starEach args C.env)) []) Q E s) :
    wpAny C.M C.A (callWith pos f first (backTo pos (starEach args C.env)) []) (PostV C.G B Q) Fls s := by
  refine callWith_of (P := fun h => ∀ b o, C.G.h₀.get? b = some o → h.get? b = some o) (by rw [hst]; rfl) hk (he _ _ _ ?_)
  refine h.use S pos fun vs s₁ rs H' v S1 t q => ⟨S1.toH.keep0, ?_⟩
  exact q B s₁ _ S1.toH ((hf.mono t).append v)

theorem args0 {M : Model} {A : Around} {f : Value} : ∀ (Q : Args → Shared → Prop) (E s), wpAny M A (spliced []) (fun vs s' => Q ⟨vs, []⟩ s') E s → wpAny M A (evalArgs f true [] []) Q E s := fun Q E s h => by
  unfold evalArgs
  show wpAny M A (spliced [] >>= _) Q E s
  refine wpAny_bind (wpAny_mono h (fun vs s' h' => ?_) fun _ _ x => x)
  refine wpAny_holding ?_
  exact wpAny_bind (wpAny_pure (wpAny_bind (wpAny_pure (wpAny_pure h'))))

noncomputable abbrev KCl (C : Cx) (f : Value) (Q : V → AH → Prop) : List V → AH → Prop := fun rs H'' => Cl C.G C.A f rs H'' Q
noncomputable abbrev KCall0 (C : Cx) (Q : V → AH → Prop) : V → AH → Prop := fun r H' => ∃ f, r = .lit f ∧ Kp C.G f ∧ Cl C.G C.A f [] H' Q
noncomputable abbrev KCall (C : Cx) (es : List Expr) (σ : Lo) (Q : V → AH → Prop) : V → AH → Prop := fun r H' => ∃ f, r = .lit f ∧ Kp C.G f ∧ Es C es σ H' (KCl C f Q)
/-- f(), f(e, ..) with a name ahead -/
theorem Ev.call0 {x p pos} (h : Ev C (.Name x p) σ H (KCall0 C Q)) : Ev C (.Call (.Name x p) [] [] pos) σ H Q := fun B s S => by
  refine wpAny_Call_Name_kw (h.use S fun u s₁ a H₁ v1 S1 _ hz => ?_)
  obtain ⟨f, e, k, h1⟩ := hz
  subst e; obtain rfl := v1.l
  exact callWith_plain k (rf := []) (Es.nil h1) S1 .nil rfl args0
theorem Ev.call {x p pos e es} (h : Ev C (.Name x p) σ H (KCall C (e :: es) σ Q))
    (he : starEach (e :: es) C.env = (false, eval e C.env) :: starEach es C.env := by with_unfolding_all rfl)
    (hst : ((backTo pos (starEach (e :: es) C.env)).any (·.1)) = false := by with_unfolding_all rfl) : Ev C (.Call (.Name x p) (e :: es) [] pos) σ H Q := fun B s S => by
  refine wpAny_Call_Name_kw (h.use S fun u s₁ a H₁ v1 S1 _ hz => ?_)
  obtain ⟨f, e, k, h1⟩ := hz
  subst e; obtain rfl := v1.l
  exact callWith_plain k (rf := []) h1 S1 .nil hst fun Q E s h => by rw [he] at h ⊢; exact evalArgs_plain h

/-- a method is looked up -/
noncomputable def Gm (G : Gl) (A : Around) (o : V) (name : Str) (H : AH) (f : Value) (rf : List V) (H' : AH) : Prop :=
  ∀ B s ov pl, StH G B H s → VR s.heap ov o → wpAny G.M A (getMethod ov name pl) (fun fx s' => fx.1 = f ∧ VRs s'.heap fx.2 rf ∧ StH G B H' s') Fls s

noncomputable abbrev KClm (C : Cx) (f : Value) (rf : List V) (Q : V → AH → Prop) : List V → AH → Prop := fun rs H₃ => Cl C.G C.A f (rf ++ rs) H₃ Q
noncomputable abbrev KMeth (C : Cx) (name : Str) (args : List Expr) (σ : Lo) (Q : V → AH → Prop) : V → AH → Prop := fun r H₁ => ∃ f rf H₂, Gm C.G C.A r name H₁ f rf H₂ ∧ Kp C.G f ∧ Es C args σ H₂ (KClm C f rf Q)
noncomputable abbrev KMeth0 (C : Cx) (name : Str) (Q : V → AH → Prop) : V → AH → Prop := fun r H₁ => ∃ f rf H₂, Gm C.G C.A r name H₁ f rf H₂ ∧ Kp C.G f ∧ Cl C.G C.A f (rf ++ []) H₂ Q
theorem Ev.meth {o name apos pos args} (h : Ev C o σ H (KMeth C name args σ Q))
    (he : ∀ f Q E s, wpAny C.M C.A (spliced (backTo pos (starEach args C.env))) (fun vs s' => Q ⟨vs, []⟩ s') E s → wpAny C.M C.A (evalArgs f true (backTo pos (starEach args C.env)) []) Q E s)
    (pl : Sem Bool) (hm : eval (.Call (.Attribute o name apos) args [] pos) C.env = (eval o C.env >>= fun ov => standAt apos.atName >>= fun _ => holding [ov] (getMethod ov name pl) >>= fun fx => callWith pos fx.1 fx.2 (backTo pos (starEach args C.env)) []) := by with_unfolding_all rfl)
    (hst : ((backTo pos (starEach args C.env)).any (·.1)) = false := by with_unfolding_all rfl) : Ev C (.Call (.Attribute o name apos) args [] pos) σ H Q := fun B s S => by
  rw [hm]
  refine wpAny_bind (h.use S fun u s₁ a H₁ v1 S1 _ ⟨f, rf, H₂, gm, k, h1⟩ => wpAny_bind (wpAny_standAt (wpAny_bind (wpAny_holding ?_))))
  refine wpAny_mono (frame S1 (rel := fun h fx r => fx.1 = f ∧ VRs h fx.2 r) (t := getMethod u name pl) (Q := fun r H' => r = rf ∧ H' = H₂) fun B' S1' => ?_) (fun fx s₂ ⟨r, H', ⟨e1, v2⟩, S2, t2, er, eh⟩ => ?_) fun _ _ x => x
  · exact wpAny_mono (gm B' s₁ u pl S1'.toH v1) (fun fx s' ⟨a, b, c⟩ => ⟨rf, H₂, ⟨a, b⟩, c, rfl, rfl⟩) fun _ _ x => x
  · subst er eh
    obtain ⟨f', first⟩ := fx
    dsimp only at e1 v2 ⊢
    subst e1
    exact callWith_plain k h1 S2 v2 hst (he _)

theorem Ev.meth1 {o name apos pos e es pl} (h : Ev C o σ H (KMeth C name (e :: es) σ Q))
    (hm : eval (.Call (.Attribute o name apos) (e :: es) [] pos) C.env = (eval o C.env >>= fun ov => standAt apos.atName >>= fun _ => holding [ov] (getMethod ov name pl) >>= fun fx => callWith pos fx.1 fx.2 (backTo pos (starEach (e :: es) C.env)) []) := by with_unfolding_all rfl)
    (he : starEach (e :: es) C.env = (false, eval e C.env) :: starEach es C.env := by with_unfolding_all rfl)
    (hst : ((backTo pos (starEach (e :: es) C.env)).any (·.1)) = false := by with_unfolding_all rfl) : Ev C (.Call (.Attribute o name apos) (e :: es) [] pos) σ H Q :=
  Ev.meth h (fun f Q E s h => by rw [he] at h ⊢; exact evalArgs_plain h) pl hm hst
theorem Ev.meth0 {o name apos pos pl} (h : Ev C o σ H (KMeth0 C name Q))
    (hm : eval (.Call (.Attribute o name apos) [] [] pos) C.env = (eval o C.env >>= fun ov => standAt apos.atName >>= fun _ => holding [ov] (getMethod ov name pl) >>= fun fx => callWith pos fx.1 fx.2 (backTo pos (starEach [] C.env)) []) := by with_unfolding_all rfl)
    (hst : ((backTo pos (starEach [] C.env)).any (·.1)) = false := by with_unfolding_all rfl) : Ev C (.Call (.Attribute o name apos) [] [] pos) σ H Q :=
  Ev.meth (args := []) (h.mono fun r H₁ ⟨f, rf, H₂, g, k, c⟩ => ⟨f, rf, H₂, g, k, Es.nil c⟩) (fun f => args0) pl hm hst
end
end Mine
namespace Mine
open PySem PySem.W PySem.Calls PyProof.Rows

/-! ## entering a def -/
theorem cellsFrom_look : ∀ (names : List (Str × NameKind)) (n : Nat) (acc : List (Str × Addr)) (x : Str), ((x, NameKind.cell) ∈ names ∨ ∃ c, acc.lookup x = some c) → ∃ c, (cellsFrom n names acc).lookup x = some c
  | [], n, acc, x, h => by rcases h with h | h; · cases h
                           · exact h
  | (y, k) :: r, n, acc, x, h => by
    unfold cellsFrom
    have key : ∀ c, (∃ c', ((y, c) :: acc).lookup x = some c') ∨ (x ≠ y ∧ ¬ ∃ c', acc.lookup x = some c') := fun c => by
      by_cases q : x = y
      · subst q; exact .inl ⟨c, by simp⟩
      · by_cases q2 : ∃ c', acc.lookup x = some c'
        · obtain ⟨c', e⟩ := q2
          refine .inl ⟨c', ?_⟩
          rw [List.lookup_cons]
          have : (x == y) = false := by simpa using q
          rw [this]; exact e
        · exact .inr ⟨q, q2⟩
    split
    · refine cellsFrom_look r (n + 1) _ x ?_
      rcases key n with k' | ⟨k1, k2⟩
      · exact .inr k'
      · rcases h with h | h
        · rcases List.mem_cons.mp h with h | h
          · cases h; exact absurd rfl k1
          · exact .inl h
        · exact absurd h k2
    · rename_i q
      refine cellsFrom_look r n acc x ?_
      rcases h with h | h
      · rcases List.mem_cons.mp h with h | h
        · cases h; exact absurd rfl q
        · exact .inl h
      · exact .inr h

theorem heap_size : ∀ L : Nat, ∃ h : Heap, h.objs.size = L
  | 0 => ⟨{ (default : Heap) with objs := #[] }, rfl⟩
  | n + 1 => by obtain ⟨h, e⟩ := heap_size n; exact ⟨h.push { cls := .none, data := .dict #[] }, by rw [Heap.size_push, e]⟩
theorem cells_inj (L : Nat) (names : List (Str × NameKind)) : (cellsFrom L names []).Pairwise fun x y => x.2 ≠ y.2 := by
  obtain ⟨h, e⟩ := heap_size L
  have := cellsFrom_ok names h 0 [] ⟨fun _ _ h => absurd h List.not_mem_nil, List.Pairwise.nil⟩ (Nat.zero_le _)
  rw [e] at this
  exact this.apart

/-- the frame of a def -/
noncomputable def cenv (sc : Scope) (q : Str) (code : Value) (f L : Addr) : Env := { scope := sc, locals := L, globals := mainGlobals, cells := cellsFrom (L + 1) sc.names [], qual := q, func := some f, code := code, frame := some L, builtins := builtinsNs }
noncomputable abbrev Cx.of (G : Gl) (A : Around) (n : Nat) (rm : Rm A n) (sc : Scope) (hk : sc.kind = .function) (q : Str) (code : Value) (f L : Addr) : Cx where
  G := G
  A := A
  n := n
  rm := rm
  env := cenv sc q code f L
  wr := true
  kind := hk
  globals := rfl
  builtins := rfl
  inj := fun x y c h1 h2 => name_of_addr (cells_inj (L + 1) sc.names) (mem_of_lookup h1) (mem_of_lookup h2)
  cellAll := fun x h => cellsFrom_look _ _ _ _ (.inl (mem_of_lookup h))

noncomputable def Lo.of (bs : List (Str × V)) : Lo := bs.foldl (fun σ b => σ.put b.1 b.2) fun _ => none

/-- a def of the program stands in the heap -/
noncomputable def Fn (G : Gl) (f : Addr) (ps : List Str) (sc : Scope) (body : List Stmt) : Prop := ∃ o fd, G.h₀.get? f = some o ∧ o.data = .func fd ∧ fd.body = .stmts body ∧ fd.scope = sc ∧ fd.globals = mainGlobals ∧
  fd.builtins = builtinsNs ∧ fd.closure = [] ∧ G.h₀.CodeRec fd.code fd.qualname ∧ ∀ vals, vals.length = ps.length → ∀ s : Shared, (∀ b o, G.h₀.get? b = some o → s.heap.get? b = some o) → BindsTo s fd ⟨vals, []⟩ (ps.zip vals)

theorem Fn.kp {G f ps sc body} (F : Fn G f ps sc body) : Kp G (.ref f) := by
  obtain ⟨o, fd, ho, hd, _⟩ := F
  exact .func ho hd
theorem binds_rel {h : Heap} (kindOf : Str → Option NameKind) : ∀ (ps : List Str) (vs : List Value) (rs : List V) (m cm : Str → Option Value) (σ : Lo), VRs h vs rs →
    (∀ x ∈ ps, kindOf x = some .local ∨ kindOf x = some .cell) →
    (∀ x r, kindOf x = some .local → σ x = some r → ∃ v, m x = some v ∧ VR h v r) → (∀ x r, kindOf x = some .cell → σ x = some r → ∃ v, cm x = some v ∧ VR h v r) →
    (∀ x r, kindOf x = some .local → ((ps.zip rs).foldl (fun σ b => σ.put b.1 b.2) σ) x = some r → ∃ v, bindL kindOf (ps.zip vs) m x = some v ∧ VR h v r) ∧
    (∀ x r, kindOf x = some .cell → ((ps.zip rs).foldl (fun σ b => σ.put b.1 b.2) σ) x = some r → ∃ v, bindC kindOf (ps.zip vs) cm x = some v ∧ VR h v r)
  | [], _, _, _, _, _, _, _, h1, h2 => ⟨by simpa [bindL] using h1, by simpa [bindC] using h2⟩
  | _ :: _, _, _, _, _, _, .nil, _, h1, h2 => ⟨by simpa [bindL] using h1, by simpa [bindC] using h2⟩
  | p :: ps, v :: vs, r :: rs, m, cm, σ, .cons a b, hk, h1, h2 => by
    simp only [List.zip_cons_cons, List.foldl_cons, bindL, bindC]
    refine binds_rel kindOf ps vs rs _ _ (σ.put p r) b (fun x hx => hk x (List.mem_cons_of_mem _ hx)) (fun x r' kx e => ?_) (fun x r' kx e => ?_)
    · by_cases q : x = p
      · subst q; rw [Lo.put_self] at e; cases e
        rw [if_pos kx]; exact ⟨v, if_pos rfl, a⟩
      · rw [Lo.put_ne _ _ q] at e
        obtain ⟨u, e1, e2⟩ := h1 x r' kx e
        refine ⟨u, ?_, e2⟩
        split
        · exact (if_neg q).trans e1
        · exact e1
    · by_cases q : x = p
      · subst q; rw [Lo.put_self] at e; cases e
        rw [if_neg (by rw [kx]; exact fun z => by cases z)]; exact ⟨v, if_pos rfl, a⟩
      · rw [Lo.put_ne _ _ q] at e
        obtain ⟨u, e1, e2⟩ := h2 x r' kx e
        refine ⟨u, ?_, e2⟩
        split
        · exact e1
        · exact (if_neg q).trans e1

/-- a call, as code -/
noncomputable def Clc (G : Gl) (A : Around) (f : Value) (rs : List V) (H : AH) (Q : V → AH → Prop) : Prop :=
  ∀ B s vs, StH G B H s → VRs s.heap vs rs → codeAny G.M A (.call f ⟨vs, []⟩) (fun r s' => match r with | .ok (.ret v) => PostV G B Q v s' | _ => False) s
theorem Clc.cl {G A f rs H Q} (h : Clc G A f rs H Q) : Cl G A f rs H Q := fun B s vs S R => wpAny_call (codeAny_mono (h B s vs S R) fun r s' z => by
  rcases r with e | (v | _ | _ | _) <;> first | exact z | exact z.elim)

/-- calling a def -/
theorem Clc.enter {G : Gl} {A : Around} {n : Nat} (rm : Rm A (n + 1)) {f : Addr} {ps : List Str} {sc : Scope} {body : List Stmt} {rs : List V} {H : AH} {Q : V → AH → Prop} (F : Fn G f ps sc body) (hlen : rs.length = ps.length)
    (hk : sc.kind = .function) (hco : sc.isCoroutine = false) (hgen : sc.isGenerator = false)
    (hps : ∀ x ∈ ps, sc.names.lookup x = some .local ∨ sc.names.lookup x = some .cell)
    (h : ∀ env (q : Str) (code : Value) (L : Addr), Ex (Cx.of G (A.deeper env) n (rm.deeper env) sc hk q code f L) body (Lo.of (ps.zip rs)) H (fun _ H' => Q .none H') Q) : Clc G A (.ref f) rs H Q := fun B s vs S R => by
  obtain ⟨o, fd, ho, hd, hb, rfl, hg, hbi, hc, hcd, hbind⟩ := F
  have hl : vs.length = ps.length := R.length.trans hlen
  refine codeAny_call_function (body := body) (by have := rm.depth; show A.depth < 1000; omega) (S.keep0 _ _ ho) hd hco hgen hb (hcd.keeps S.keep0) ?_
  refine hbind vs hl s S.keep0 _ _ _ _ ?_
  rw [hc]
  refine wpAny_newFunctionEnv_cells hk ?_ fun env he s₁ I => ?_
  · intro x hx
    have hx' : x.1 ∈ ps := (List.of_mem_zip (a := x.1) (b := x.2) hx).1
    rcases hps _ hx' with e | e
    · exact .inl e
    · refine .inr ⟨e, ?_⟩
      obtain ⟨c, hc⟩ := cellsFrom_look fd.scope.names (s.heap.objs.size + 1) [] x.1 (.inl (mem_of_lookup e))
      rw [hc]; rfl
  subst he
  refine ⟨(G.nolim.keeps S.keep0).keeps I.toInCall.keep, codeAny_func ?_⟩
  revert I
  show InCallC s (callEnvC fd s.heap.objs.size f).locals (bindL (callEnvC fd s.heap.objs.size f).kindOf (ps.zip vs) fun _ => none) (callEnvC fd s.heap.objs.size f).cells (bindC (callEnvC fd s.heap.objs.size f).kindOf (ps.zip vs) fun _ => none) s₁ →
    wpAny _ (A.deeper (callEnvC fd s.heap.objs.size f)) (execs body (callEnvC fd s.heap.objs.size f)) _ _ s₁
  intro I
  have ee : callEnvC fd s.heap.objs.size f = cenv fd.scope (fd.qualname ++ ".<locals>.") fd.code f s.heap.objs.size := by
    unfold callEnvC newEnv cenv; dsimp only; rw [hg, hbi]
  rw [ee] at I ⊢
  obtain ⟨⟨⟨h₁, tk, rfl⟩, ns, keep, fresh⟩, cell, apart, above⟩ := I
  have S1 : StH G B H { s with heap := h₁, toks := tk } := ⟨S.os, S.gens, S.top, fun b o e => keep b o (S.keep b o e), fun a o e => OR.mono (S.hr a o e) (.of_keep keep) (fun ob e => keep _ _ e), S.apart⟩
  have fr := S.fresh
  have ab : ∀ c, s.heap.objs.size ≤ c → B c = none := fun c hc => by
    cases q : B c with
    | none => rfl
    | some o => exact absurd (Heap.lt_size (S.keep _ _ q)) (Nat.not_lt.mpr hc)
  have rel := binds_rel (h := h₁) (cenv fd.scope (fd.qualname ++ ".<locals>.") fd.code f s.heap.objs.size).kindOf ps vs rs (fun _ => none) (fun _ => none) (fun _ => none) (R.mono (.of_keep keep)) hps (fun _ _ _ e => by cases e) (fun _ _ _ e => by cases e)
  have SW : StW (Cx.of G (A.deeper (cenv fd.scope (fd.qualname ++ ".<locals>.") fd.code f s.heap.objs.size)) n (rm.deeper _) fd.scope hk (fd.qualname ++ ".<locals>.") fd.code f s.heap.objs.size) B (Lo.of (ps.zip rs)) H { s with heap := h₁, toks := tk } := by
    refine ⟨⟨S1, ⟨⟨_, ns, rel.1⟩, fun x c e => ⟨_, cell x c e, fun r hkx e' => ?_⟩⟩, fr.1⟩, fr.2, fun _ x c _ e => ab c (Nat.le_of_lt (above x c (mem_of_lookup e)))⟩
    rcases hkx with hkx | hkx
    · exact rel.2 x r hkx e'
    · exfalso
      have e'' : (cellsFrom (s.heap.objs.size + 1) fd.scope.names []).lookup x = some c := e
      -- a free name is bound by no parameter
      have nm : ∀ (l : List (Str × V)) (σ : Lo), l.foldl (fun σ b => σ.put b.1 b.2) σ x = some r → (∃ r', (x, r') ∈ l) ∨ σ x = some r := by
        intro l
        induction l with
        | nil => exact fun σ e => .inr e
        | cons b t ih =>
          intro σ e
          rcases ih _ e with ⟨r', h'⟩ | h'
          · exact .inl ⟨r', List.mem_cons_of_mem _ h'⟩
          · by_cases q : x = b.1
            · subst q; exact .inl ⟨b.2, by simp⟩
            · exact .inr ((Lo.put_ne σ b.2 q).symm.trans h')
      rcases nm _ _ e' with ⟨r', h'⟩ | h'
      · rcases hps x (List.of_mem_zip h').1 with z | z <;> (have z' : fd.scope.names.lookup x = some .free := hkx; rw [z] at z'; cases z')
      · cases h'
  refine wpAny_mono (h _ _ _ _ B _ SW) (fun fl s' z => ?_) fun _ _ x => x.elim
  cases fl with
  | next => obtain ⟨σ', H', S', q⟩ := z; exact ⟨.none, H', .none, S'.toSt.toH, q⟩
  | ret v => obtain ⟨r, H', v', S', q⟩ := z; exact ⟨r, H', v', S', q⟩
  | brk => exact z.elim
  | cont => exact z.elim
end Mine
namespace Mine
open PySem PySem.W PySem.Calls PyProof.Rows

noncomputable abbrev P : Program := PySem.Challenge.pw_nt0013_01
noncomputable def fnBody : Stmt → List Stmt
  | .FunctionDef _ _ b .. => b
  | _ => []
noncomputable def fnScope : Stmt → Scope
  | .FunctionDef _ _ _ _ _ _ sc .. => sc
  | s => default
noncomputable def clsBody : Stmt → List Stmt
  | .ClassDef _ _ _ b .. => b
  | _ => []
noncomputable def top (i : Nat) : Stmt := P.main.body.getD i (.Pass ⟨0, 0, 0, 0⟩)
noncomputable def meth (i j : Nat) : Stmt := (clsBody (top i)).getD j (.Pass ⟨0, 0, 0, 0⟩)

/-- where the program's defs and classes stand -/
structure Ad where
  place : Addr
  firstOf : Addr
  bounds : Addr
  wanted : Addr
  merged : Addr
  CodeSet : Addr
  areLike : Addr
  RangeMap : Addr
  rows : Addr
  defaults : Addr
  Data : Addr
  deck : Addr
  draw : Addr
  pieces : Addr
  part : Addr
  has : Addr
  mixed : Addr
  right : Addr
  cs : Nat → Addr
  rm : Nat → Addr
  da : Nat → Addr

noncomputable def points : List Int := [0, 1, 5, 6, 9, 12, 55295, 55296, 65535, 65536, 1114110, 1114111]
/-- the program's globals -/
noncomputable def globL (a : Ad) : List (Str × V) :=
  [("place_by_half", .lit (.ref a.place)), ("range_first_of", .lit (.ref a.firstOf)), ("range_bounds", .lit (.ref a.bounds)), ("range_is_wanted", .lit (.ref a.wanted)), ("range_merged", .lit (.ref a.merged)), ("CodeSet", .lit (.ref a.CodeSet)), ("range_are_like", .lit (.ref a.areLike)), ("RangeMap", .lit (.ref a.RangeMap)), ("range_rows", .lit (.ref a.rows)), ("data_defaults", .lit (.ref a.defaults)), ("Data", .lit (.ref a.Data)), ("_law_deck", .lit (.ref a.deck)), ("_law_draw", .lit (.ref a.draw)), ("_law_pieces", .lit (.ref a.pieces)), ("_law_part", .lit (.ref a.part)), ("_law_has", .lit (.ref a.has)), ("_law_mixed", .lit (.ref a.mixed)), ("_law_sets_right", .lit (.ref a.right)),
   ("MAX_CODE", .int 1114111), ("RANGE_END", .int 1114112), ("_law_last", .int 1114111), ("_law_points", .tup (points.map .int))]
noncomputable def glob (a : Ad) (x : Str) : Option V := (globL a).lookup x
/-- the built-in names that it uses -/
noncomputable def bltL : List (Str × Value) := [("len", .builtin "len"), ("max", .builtin "max"), ("sum", .builtin "sum"), ("sorted", .builtin "sorted"), ("isinstance", .builtin "isinstance"), ("bool", .type "bool"), ("int", .type "int"), ("range", .type "range"), ("enumerate", .type "enumerate"), ("tuple", .type "tuple"), ("repr", .builtin "repr")]
noncomputable def blt (x : Str) : Option Value := bltL.lookup x

/-- what is asked of the heap that the program's top leaves -/
structure Ok0 (G : Gl) (a : Ad) : Prop where
  gl : ∀ x r, glob a x = some r → ∃ v, G.mg x = some v ∧ VR G.h₀ v r
  bi : ∀ x v, blt x = some v → G.mg x = none ∧ G.mb x = some v
  place : Fn G a.place ["firsts", "number"] (fnScope (top 2)) (fnBody (top 2))

theorem Ev.gl {C : Cx} {a : Ad} {σ : Lo} {H : AH} {x pos r} {Q : V → AH → Prop} (ok : Ok0 C.G a) (hk : C.env.kindOf x = some .globalImplicit) (hg : glob a x = some r) (h : Q r H)
    (hd : (x == ("__debug__" : Str)) = false := by kernel_rfl) : Ev C (.Name x pos) σ H Q := by
  obtain ⟨v, h1, h2⟩ := ok.gl x r hg
  exact Ev.global hk h1 h2 h hd
theorem Ev.bi {C : Cx} {a : Ad} {σ : Lo} {H : AH} {x pos v} {Q : V → AH → Prop} (ok : Ok0 C.G a) (hk : C.env.kindOf x = some .globalImplicit) (hg : blt x = some v) (h : Q (.lit v) H)
    (hd : (x == ("__debug__" : Str)) = false := by kernel_rfl) : Ev C (.Name x pos) σ H Q := by
  obtain ⟨h1, h2⟩ := ok.bi x v hg
  exact Ev.builtin hk h1 h2 h hd

theorem Do.len {G : Gl} {A : Around} {H : AH} {Q : V → AH → Prop} {a : Addr} {l : List V} (ha : H a = some (.list l)) (h : Q (.int l.length) H) : Cl G A (.builtin "len") [.ref a] H Q := fun B s vs S R => by
  obtain ⟨u, rfl, x⟩ := R.one
  obtain rfl := x.r
  obtain ⟨vs, n, e, il, vr, z, z2⟩ := OR.isList (S.hr _ _ ha)
  refine call_len_list il (by rw [z]; omega) ?_
  exact PostV.mk' ((S.tok _).tok _) (by rw [z]; exact .int _ _) h
end Mine
namespace Mine
open PySem PySem.W PySem.Calls PyProof.Rows

/-! ## what is looked at behind the program's top -/
noncomputable def fragAt (h : Heap) (as : List Addr) : Frag := as.filterMap fun a => (h.get? a).map fun o => (a, o)
theorem fragAt_in (h : Heap) : ∀ as : List Addr, (fragAt h as).In h
  | [], a, o, e => by cases e
  | b :: as, a, o, e => by
    unfold fragAt at e
    rw [List.filterMap_cons] at e
    cases q : h.get? b with
    | none => rw [q] at e; exact fragAt_in h as a o e
    | some x =>
      rw [q] at e
      dsimp only [Option.map_some] at e
      rw [List.lookup_cons] at e
      cases q2 : a == b with
      | true => rw [q2] at e; cases e; rw [beq_iff_eq.mp q2]; exact q
      | false => rw [q2] at e; exact fragAt_in h as a o e
noncomputable def refOf : Option Value → Addr
  | some (.ref a) => a
  | _ => 0
noncomputable def isRef : Option Value → Bool
  | some (.ref _) => true
  | _ => false
theorem isRef_eq {v : Option Value} (h : isRef v = true) : v = some (.ref (refOf v)) := by
  unfold isRef at h
  split at h
  · rfl
  · cases h
noncomputable def gAddr (h : Heap) (x : Str) : Addr := refOf (h.nsMap mainGlobals x)
noncomputable def clsNs (h : Heap) (C : Addr) : Addr := match h.get? C with
  | some ⟨_, _, .cls cd, _⟩ => cd.ns
  | _ => 0
noncomputable def mAddr (h : Heap) (C : Addr) (x : Str) : Addr := refOf (h.nsMap (clsNs h C) x)
noncomputable def field0 (h : Heap) (p : Addr) : Addr := match h.get? p with
  | some ⟨_, _, .fields vs, _⟩ => refOf vs[0]?
  | _ => 0
noncomputable def csNames : List Str := ["__init__", "of", "has", "ranges", "size", "union", "both", "without", "opposite", "add", "equals", "first_at"]
noncomputable def rmNames : List Str := ["__init__", "get", "put", "ranges", "set_of"]
noncomputable def daNames : List Str := ["__init__", "put", "get", "map_of"]
noncomputable def adOf (h : Heap) : Ad where
  place := gAddr h "place_by_half"
  firstOf := gAddr h "range_first_of"
  bounds := gAddr h "range_bounds"
  wanted := gAddr h "range_is_wanted"
  merged := gAddr h "range_merged"
  CodeSet := gAddr h "CodeSet"
  areLike := gAddr h "range_are_like"
  RangeMap := gAddr h "RangeMap"
  rows := gAddr h "range_rows"
  defaults := gAddr h "data_defaults"
  Data := gAddr h "Data"
  deck := gAddr h "_law_deck"
  draw := gAddr h "_law_draw"
  pieces := gAddr h "_law_pieces"
  part := gAddr h "_law_part"
  has := gAddr h "_law_has"
  mixed := gAddr h "_law_mixed"
  right := gAddr h "_law_sets_right"
  cs := fun j => if j = 1 then field0 h (mAddr h (gAddr h "CodeSet") "of") else mAddr h (gAddr h "CodeSet") (csNames.getD j "")
  rm := fun j => mAddr h (gAddr h "RangeMap") (rmNames.getD j "")
  da := fun j => mAddr h (gAddr h "Data") (daNames.getD j "")
noncomputable def fnParams : Stmt → Arguments
  | .FunctionDef _ a .. => a
  | _ => default
/-- the defs, in order -/
noncomputable def fnAt (a : Ad) (law : Addr) : Nat → Addr × Stmt
  | 0 => (a.place, top 2) | 1 => (a.firstOf, top 5) | 2 => (a.bounds, top 6) | 3 => (a.wanted, top 7) | 4 => (a.merged, top 8) | 5 => (a.areLike, top 10) | 6 => (a.rows, top 12) | 7 => (a.defaults, top 14)
  | 8 => (a.deck, top 19) | 9 => (a.draw, top 20) | 10 => (a.pieces, top 21) | 11 => (a.part, top 22) | 12 => (a.has, top 23) | 13 => (a.mixed, top 24) | 14 => (a.right, top 25) | 15 => (law, top 26)
  | 16 => (a.cs 0, meth 9 0) | 17 => (a.cs 1, meth 9 1) | 18 => (a.cs 2, meth 9 2) | 19 => (a.cs 3, meth 9 3) | 20 => (a.cs 4, meth 9 4) | 21 => (a.cs 5, meth 9 5) | 22 => (a.cs 6, meth 9 6) | 23 => (a.cs 7, meth 9 7)
  | 24 => (a.cs 8, meth 9 8) | 25 => (a.cs 9, meth 9 9) | 26 => (a.cs 10, meth 9 10) | 27 => (a.cs 11, meth 9 11)
  | 28 => (a.rm 0, meth 11 0) | 29 => (a.rm 1, meth 11 1) | 30 => (a.rm 2, meth 11 2) | 31 => (a.rm 3, meth 11 3) | 32 => (a.rm 4, meth 11 4)
  | 33 => (a.da 0, meth 15 0) | 34 => (a.da 1, meth 15 1) | 35 => (a.da 2, meth 15 2) | _ => (a.da 3, meth 15 3)
noncomputable def fnStmt (i : Nat) : Stmt := (fnAt ⟨0,0,0,0,0,0,0,0,0,0,0,0,0,0,0,0,0,0, fun _ => 0, fun _ => 0, fun _ => 0⟩ 0 i).2
noncomputable def fnObs (h : Heap) (f : Addr) : Option (FuncBody × Scope × Arguments × Addr × Addr × List (Str × Addr)) := match h.get? f with
  | some ⟨_, _, .func fd, _⟩ => some (fd.body, fd.scope, fd.params, fd.globals, fd.builtins, fd.closure)
  | _ => none
noncomputable def fnExp (st : Stmt) : Option (FuncBody × Scope × Arguments × Addr × Addr × List (Str × Addr)) := some (.stmts (fnBody st), fnScope st, fnParams st, mainGlobals, builtinsNs, [])
noncomputable def seqAt (h : Heap) : Value → Bool
  | .ref T => (match h.get? T with | some ⟨_, _, .seq vs _, _⟩ => vs.size == 1 | _ => false)
  | _ => false
noncomputable def codeOk (h : Heap) (cd : Value) (q : Str) : Bool := match cd with
  | .ref c => (match h.get? c with
    | some ⟨_, _, .fields vs, _⟩ => (match (vs[1]? : Option Value) with | some (Value.str x _) => x == q | _ => false)
    | _ => false)
  | _ => false
noncomputable def fnB (h : Heap) (one : Bool) (f : Addr) : Bool := match h.get? f with
  | some ⟨_, _, .func fd, _⟩ => codeOk h fd.code fd.qualname && (if one then seqAt h fd.defaults else fd.defaults == .none)
  | _ => false
noncomputable def clsB (K : Frag) (C : Addr) (attrs : List Str) (meths : List (Str × Addr)) (init : Addr) : Bool :=
  plainGet K C "" && hasDictIn K C && attrs.all (fun x => findIn K (.ref C) x == some none) && meths.all (fun p => findIn K (.ref C) p.1 == some (some (.ref p.2)) && isFn K (.ref p.2)) &&
  findIn K (.ref C) "__setattr__" == some (some (.builtin "object.__setattr__")) && plainOver K C && makesIn K C && findIn K (.ref C) "__init__" == some (some (.ref init)) && typeIn K (.ref init) == some (.type "function") && keepIn K (.ref C)
noncomputable def kAddrs (h : Heap) (a : Ad) : List Addr := [cStatics, a.CodeSet, clsNs h a.CodeSet, a.RangeMap, clsNs h a.RangeMap, a.Data, clsNs h a.Data, mAddr h a.CodeSet "of"] ++ (List.range 12).map a.cs ++ (List.range 5).map a.rm ++ (List.range 4).map a.da
noncomputable def kOf (h : Heap) : Frag := fragAt h (kAddrs h (adOf h))
noncomputable def csMeths (a : Ad) : List (Str × Addr) := [("has", a.cs 2), ("ranges", a.cs 3), ("size", a.cs 4), ("union", a.cs 5), ("both", a.cs 6), ("without", a.cs 7), ("opposite", a.cs 8), ("add", a.cs 9), ("equals", a.cs 10), ("first_at", a.cs 11)]
noncomputable def rmMeths (a : Ad) : List (Str × Addr) := [("get", a.rm 1), ("put", a.rm 2), ("ranges", a.rm 3), ("set_of", a.rm 4)]
noncomputable def daMeths (a : Ad) : List (Str × Addr) := [("put", a.da 1), ("get", a.da 2), ("map_of", a.da 3)]
noncomputable def staticB (K : Frag) (C p f : Addr) : Bool := specialIn K (.ref C) "__getattribute__" == some (some (.builtin "type.__getattribute__")) && readsIn K C (.type "type") &&
  (match findCls K (.ref C) (.type "type") "of" with
    | some (.get (.builtin g) (.ref p') .none (.ref C')) => g == "staticmethod.__get__" && p' == p && C' == C
    | _ => false) &&
  (match recIn K p "staticmethod" with
    | some (.ref f' :: _) => f' == f
    | _ => false)
noncomputable def fnNames : List Str := ["place_by_half", "range_first_of", "range_bounds", "range_is_wanted", "range_merged", "CodeSet", "range_are_like", "RangeMap", "range_rows", "data_defaults", "Data", "_law_deck", "_law_draw", "_law_pieces", "_law_part", "_law_has", "_law_mixed", "_law_sets_right", "law"]
noncomputable def intIs (v : Option Value) (i : Int) : Bool := match v with
  | some (.int j _) => j == i
  | _ => false
noncomputable def intsAre : List Value → List Int → Bool
  | [], [] => true
  | .int j _ :: vs, i :: is => j == i && intsAre vs is
  | _, _ => false
noncomputable def tupIs (h : Heap) (v : Option Value) (l : List Int) : Bool := match v with
  | some (.ref p) => (match h.get? p with
    | some ⟨.type "tuple", _, .seq vs _, _⟩ => intsAre vs.toList l
    | _ => false)
  | _ => false
noncomputable def bltNames : List Str := ["len", "max", "sum", "sorted", "isinstance", "bool", "int", "range", "enumerate", "tuple", "repr"]
noncomputable def okB (h : Heap) : Bool :=
  h.isNs mainGlobals && h.isNs builtinsNs && h.isNs cStatics && (h.nsMap cStatics "sys.recursionlimit").isNone && (h.get? sysModules).isSome &&
  fnNames.all (fun x => isRef (h.nsMap mainGlobals x)) && intIs (h.nsMap mainGlobals "MAX_CODE") 1114111 && intIs (h.nsMap mainGlobals "RANGE_END") 1114112 && intIs (h.nsMap mainGlobals "_law_last") 1114111 && tupIs h (h.nsMap mainGlobals "_law_points") points &&
  bltNames.all (fun x => (h.nsMap mainGlobals x).isNone && h.nsMap builtinsNs x == blt x) &&
  (List.range 37).all (fun i => fnB h (i == 16) (fnAt (adOf h) (gAddr h "law") i).1) &&
  clsB (kOf h) (adOf h).CodeSet ["bounds"] (csMeths (adOf h)) ((adOf h).cs 0) && clsB (kOf h) (adOf h).RangeMap ["default", "starts", "values"] (rmMeths (adOf h)) ((adOf h).rm 0) &&
  clsB (kOf h) (adOf h).Data ["defaults", "maps", "properties", "words"] (daMeths (adOf h)) ((adOf h).da 0) &&
  staticB (kOf h) (adOf h).CodeSet (mAddr h (adOf h).CodeSet "of") ((adOf h).cs 1)
noncomputable def obsAll (s : Shared) : Bool × List (Option (FuncBody × Scope × Arguments × Addr × Addr × List (Str × Addr))) :=
  (okB s.heap, (List.range 37).map fun i => fnObs s.heap (fnAt (adOf s.heap) (gAddr s.heap "law") i).1)
noncomputable def expAll (_ : World) : Bool × List (Option (FuncBody × Scope × Arguments × Addr × Addr × List (Str × Addr))) := (true, (List.range 37).map fun i => fnExp (fnStmt i))
noncomputable def vw : Program := view P [26]
noncomputable def looseN : List Str := (P.main.scope.names.map (·.1)).filter (· != "law")
end Mine
namespace Mine
open PySem PySem.W PySem.Calls PyProof.Rows
/- te..: the library's quick twins, of topRun, importEnds, treeTable, openSeen; OpenRow.wellSaid; namesMeet, noRoadLSs, noClassBlock. They halve the kernel's work; without them kernel_rfl alone goes through too. -/
theorem left : LeftO P vw looseN (fun _ => true) obsAll expAll 4000 := by
  intro w
  first
  | (unfold openEnds topFrom fencedOpening
     rw [Fast.te14082659384304107361, Fast.te10274390034422433532, Fast.te14364793385576792824, Fast.te4187177175401517315]
     kernel_rfl)
  | kernel_rfl
theorem said0 : (PySem.Challenge.rw_nt0013_01).row.wellSaid = true := by
  first
  | (rw [Fast.te17960256430627541270]; kernel_rfl)
  | kernel_rfl
theorem saidL : (PySem.Challenge.rw_nt0013_01).wellSaid = true := by
  unfold OpenLaw.wellSaid
  iterate 18 (refine look_both ?_ (by first | (rw [Fast.te17119622794617984870]; kernel_rfl) | (rw [Fast.te8326940854005059898]; kernel_rfl) | (rw [Fast.te8179353310426384613]; kernel_rfl) | kernel_rfl))
  exact said0
theorem opens : (chainsOk vw && opensWell (PySem.Challenge.rw_nt0013_01).row.prog && (frees (PySem.Challenge.rw_nt0013_01).row.toRowW && (PySem.Challenge.rw_nt0013_01).row.within.isEmpty)) = true := by kernel_rfl
theorem bare : (PySem.Challenge.rw_nt0013_01).row.prog.bare := ⟨rfl, rfl, rfl, rfl, rfl, by decide +kernel⟩
end Mine
namespace Mine
open PySem PySem.W PySem.Calls PyProof.Rows

/-! ## objects -/
/-- a class of the program's -/
structure Cls (G : Gl) (C : Addr) (attrs : List Str) (meths : List (Str × Addr)) (init : Addr) : Prop where
  pg : plainGet G.K C "" = true
  hd : hasDictIn G.K C = true
  at_ : ∀ x ∈ attrs, findIn G.K (.ref C) x = some none
  me : ∀ x f, meths.lookup x = some f → findIn G.K (.ref C) x = some (some (.ref f)) ∧ isFn G.K (.ref f) = true
  sa : findIn G.K (.ref C) "__setattr__" = some (some (.builtin "object.__setattr__"))
  po : plainOver G.K C = true
  mks : makesIn G.K C = true
  ini : findIn G.K (.ref C) "__init__" = some (some (.ref init))
  inf : typeIn G.K (.ref init) = some (.type "function")
  kp : Kp G (.ref C)

noncomputable def V.plain : V → Bool
  | .lit _ => false
  | _ => true
theorem VR.handed {h v r} (x : VR h v r) (p : r.plain = true) : handedIn v = true := by
  cases x <;> first | rfl | cases p

theorem lookIn_of {h : Heap} {o : Obj} {es : Array DictEntry} {ep : Nat} {name : Str} (hd : o.data = .dict es ep) (hk : StrKeys es) : lookIn name o = some (nsFind es name) := by
  unfold lookIn
  rw [hd]
  dsimp only
  unfold nsFind findBy
  rw [Array.find?_toList]
  cases q : es.find? (·.key.isStr name) with
  | some e => rfl
  | none =>
    have : es.toList.any (·.refKey) = false := by
      rw [List.any_eq_false]
      intro e he
      obtain ⟨n, t, h⟩ := hk e (by simpa using he)
      simp [DictEntry.refKey, h]
    rw [this]; rfl

section
variable {G : Gl} {A : Around} {H : AH}
theorem StH.inst {B s x C d f n} (S : StH G B H s) (hx : H x = some (.inst C d)) (hd : H d = some (.att f n)) : ∃ ox od es ep, InstAt s.heap x ox C (some od) ∧ ox.dict = some d ∧ s.heap.get? d = some od ∧ od.data = .dict es ep ∧ StrKeys es ∧ es.size ≤ n ∧
    ∀ x, match f x with | some r => ∃ v, nsFind es x = some v ∧ VR s.heap v r | none => nsFind es x = none := by
  have h1 := S.hr _ _ hx
  obtain ⟨o, es, ep, e, dd, sk, z, ff⟩ := S.hr _ _ hd
  exact ⟨instObj C d, o, es, ep, ⟨h1, rfl, rfl, e⟩, rfl, e, dd, sk, z, ff⟩

/-- an attribute of an object -/
noncomputable def Ga (G : Gl) (A : Around) (o : V) (name : Str) (H : AH) (Q : V → AH → Prop) : Prop :=
  ∀ B s ov, StH G B H s → VR s.heap ov o → wpAny G.M A (getAttr ov name true) (PostV G B Q) Fls s
theorem Ga.own {x C d f n name r attrs meths init} {Q : V → AH → Prop} (K : Cls G C attrs meths init) (hx : H x = some (.inst C d)) (hd : H d = some (.att f n)) (ha : name ∈ attrs) (hf : f name = some r) (hp : r.plain = true) (h : Q r H) :
    Ga G A (.ref x) name H Q := fun B s ov S v => by
  cases v
  obtain ⟨ox, od, es, ep, I, e1, e2, dd, sk, z, ff⟩ := S.inst hx hd
  have := ff name
  rw [hf] at this
  obtain ⟨v, h1, h2⟩ := this
  exact get_value S.X I (plainGet_of K.pg).1 (findObj_own K.hd (K.at_ _ ha) rfl (by rw [lookIn_of (h := s.heap) dd sk, h1])) (h2.handed hp) ⟨r, H, h2, S.tok _, h⟩

theorem Gm.inst {x C d f n name m attrs meths init} (K : Cls G C attrs meths init) (hx : H x = some (.inst C d)) (hd : H d = some (.att f n)) (hf : f name = none) (hm : meths.lookup name = some m) :
    Gm G A (.ref x) name H (.ref m) [.ref x] H := fun B s ov pl S v => by
  cases v
  obtain ⟨ox, od, es, ep, I, e1, e2, dd, sk, z, ff⟩ := S.inst hx hd
  have := ff name
  rw [hf] at this
  obtain ⟨h1, h2⟩ := K.me _ _ hm
  exact method_fn S.X I (plainGet_of K.pg).1 (plainGet_of K.pg).2 h1 (beq_iff_eq.mp h2) (by show (lookIn name od).map _ = _; rw [lookIn_of (h := s.heap) dd sk, this]; rfl) ⟨rfl, .cons (.ref _) .nil, S⟩

/-- self.x = v -/
theorem nsFind_put {es : Array DictEntry} {ep : Nat} {name : Str} {hs : Int} {t : Tok} {v : Value} {c dd sl} (hk : StrKeys es) : ∃ es' ep', (Obj.putName name hs (.str name t) v ⟨c, dd, .dict es ep, sl⟩) = ⟨c, dd, .dict es' ep', sl⟩ ∧ StrKeys es' ∧ es'.size ≤ es.size + (if (nsFind es name).isSome then 0 else 1) ∧ ∀ x, nsFind es' x = if x = name then some v else nsFind es x := by
  have hh : (nsFind es name).isSome = (es.findIdx? (·.key.isStr name)).isSome := by
    unfold nsFind findBy
    rw [Option.isSome_map, Array.findIdx?_isSome, Bool.eq_iff_iff]
    simp only [Array.find?_isSome, Array.any_eq_true]
    constructor
    · rintro ⟨x, hx, hp⟩; obtain ⟨i, hi, rfl⟩ := Array.mem_iff_getElem.mp hx; exact ⟨i, hi, hp⟩
    · rintro ⟨i, hi, hp⟩; exact ⟨_, Array.getElem_mem hi, hp⟩
  cases hi : es.findIdx? (·.key.isStr name) with
  | some i =>
    refine ⟨_, ep, by simp only [Obj.putName_eq, Obj.putNameByArray, hi]; rfl, hk.modify _ _, by rw [hh, hi]; simp, fun x => ?_⟩
    exact findBy_modify (fun n v => v.isStr n) Value.isStr_inj es name x v i hi
  | none =>
    refine ⟨_, ep + 1, by simp only [Obj.putName_eq, Obj.putNameByArray, hi]; rfl, hk.push _ _ _ _, by rw [hh, hi]; simp, fun x => ?_⟩
    exact findBy_push (fun n v => v.isStr n) es name x _ _ v (fun y => by
      show (name == y) = decide (y = name)
      by_cases h : y = name
      · subst h; simp
      · have : ¬ name = y := fun e => h e.symm
        simp [h, this]) hi

noncomputable def attPut (f : Str → Option V) (x : Str) (r : V) : Str → Option V := fun y => if y = x then some r else f y

noncomputable def attLen (f : Str → Option V) (x : Str) (n : Nat) : Nat := if (f x).isSome then n else n + 1
theorem setAttr_own {B s x C d f n name r v attrs meths init} {Q : Unit → Shared → Prop} (K : Cls G C attrs meths init) (S : StH G B H s) (hx : H x = some (.inst C d)) (hd : H d = some (.att f n)) (ha : name ∈ attrs) (hn : n ≤ 1000) (hv : VR s.heap v r)
    (h : ∀ s', StH G B (H.put d (.att (attPut f name r) (attLen f name n))) s' → Q () s') : wpAny G.M A (setAttr (.ref x) name v) Q Fls s := by
  obtain ⟨ox, od, es, ep, I, e1, e2, dd, sk, z, ff⟩ := S.inst hx hd
  refine set_plain S.X I K.sa ?_
  refine osa_open (s := { s with toks := s.toks + 1 }) S.X I K.po (by unfold takerIn; rw [K.at_ _ ha]; rfl) fun b => ?_
  obtain ⟨cd, hc, hd'⟩ := any_some K.hd
  obtain ⟨c, di, da, sl⟩ := od
  dsimp only at dd
  subst dd
  obtain ⟨hx', hcl, hn', -⟩ := I
  obtain ⟨oc, odi, oda, osl⟩ := ox
  dsimp only at hcl e1
  subst hcl e1
  obtain ⟨es', ep', p1, p2, p3, p4⟩ := nsFind_put (ep := ep) (name := name) (hs := PyData.keyHash G.w.params name) (t := s.toks + 1) (v := v) (c := c) (dd := di) (sl := sl) sk
  refine wpAny_bind (wpAny_pure (wpAny_bind (wpAny_bind (wpAny_loadPart hx' (wpAny_bind (looks_clsIn S.X hc _ _ _ _ (fun _ _ e => e) ?_))))))
  rw [hd']
  refine wpAny_pure (a := some d) (wpAny_bind (wpAny_pure (wpAny_bind ?_)))
  unfold nsSet
  refine wpAny_bind (wpAny_bind (wpAny_askSetting (wpAny_pure (wpAny_bind (wpAny_mkText (wpAny_bind (wpAny_loadPart e2 ?_)))))))
  dsimp only
  have hany : es.any (·.refKey) = false := by
    rw [Array.any_eq_false']; intro e he; obtain ⟨n, t, h⟩ := sk e he; simp [DictEntry.refKey, h]
  have c' : (!es.any (·.key.isStr name) && es.any (·.refKey)) = false := by rw [hany, Bool.and_false]
  rw [aRefKeyMayBeTheName_at, c']
  refine wpAny_updatePart e2 ?_
  have D' : (s.heap.update d (Obj.putName name (PyData.keyHash G.w.params name) (.str name (s.toks + 1)) v)).get? d = some ⟨c, di, .dict es' ep', sl⟩ := by
    rw [Heap.get?_update_self _ e2 (by rw [p1]; rfl), p1]
  have SB : Heap.SameBut d s.heap (s.heap.update d (Obj.putName name (PyData.keyHash G.w.params name) (.str name (s.toks + 1)) v)) := Heap.SameBut.update ..
  have hfs : (nsFind es name).isSome = (f name).isSome := by
    have := ff name
    cases q : f name with
    | none => rw [q] at this; rw [this]; rfl
    | some r' => rw [q] at this; obtain ⟨u, h1, _⟩ := this; rw [h1]; rfl
  have p3' : es'.size ≤ attLen f name n := by
    unfold attLen
    rw [hfs] at p3
    split at p3 <;> simp_all <;> omega
  have p3'' : es'.size ≤ n + 1 := by unfold attLen at p3'; split at p3' <;> omega
  refine wpAny_bind (wpAny_lookBehind D' (pastItsLine_dict (by rw [sizeLine_eq]; omega)) ?_)
  refine wpAny_pure ?_
  have tk := S.tk hd SB
  have := (S.upd hd SB (o' := .att (attPut f name r) (attLen f name n)) ⟨_, es', ep', D', rfl, p2, p3', fun y => by
    rw [p4]
    unfold attPut
    by_cases q : y = name
    · rw [if_pos q, if_pos q]; exact ⟨v, rfl, hv.mono tk⟩
    · rw [if_neg q, if_neg q]
      have := ff y
      revert this
      cases f y with
      | none => exact id
      | some r' => rintro ⟨u, h1, h2⟩; exact ⟨u, h1, h2.mono tk⟩⟩).tok (s.toks + 1 + 1)
  exact h _ this
end

section
variable {C : Cx} {σ : Lo} {H : AH}
noncomputable abbrev KAttr (C : Cx) (attr : Str) (Q : V → AH → Prop) : V → AH → Prop := fun r H' => Ga C.G C.A r attr H' Q
noncomputable abbrev KSetA2 (C : Cx) (attr : Str) (σ : Lo) (Qn : Lo → AH → Prop) (r : V) : V → AH → Prop := fun ro H₂ => ∃ x Cl d f n attrs meths init, ro = .ref x ∧ Cls C.G Cl attrs meths init ∧ H₂ x = some (.inst Cl d) ∧ H₂ d = some (.att f n) ∧ attr ∈ attrs ∧ n ≤ 1000 ∧ Qn σ (H₂.put d (.att (attPut f attr r) (attLen f attr n)))
noncomputable abbrev KSetA (C : Cx) (o : Expr) (attr : Str) (σ : Lo) (Qn : Lo → AH → Prop) : V → AH → Prop := fun r H₁ => Ev C o σ H₁ (KSetA2 C attr σ Qn r)
theorem Ev.attr {value attr pos} {Q : V → AH → Prop} (h : Ev C value σ H (KAttr C attr Q))
    (he : eval (.Attribute value attr pos) C.env = (do
      let o ← eval value C.env
      standAt pos.atName
      let r ← holding [o] (getAttr o attr true)
      letTemporaryGo value o r
      pure r) := by with_unfolding_all rfl) : Ev C (.Attribute value attr pos) σ H Q := fun B s S =>
  Attribute_any_ (h.use S fun u s₁ a H₁ v1 S1 _ h1 => h1 B s₁ u S1.toH v1) he

/-- self.x = e : first the value, then the object -/
theorem Ex1.setattr {o attr pos' value pos} {Qn : Lo → AH → Prop} {Qr : V → AH → Prop}
    (h : Ev C value σ H (KSetA C o attr σ Qn))
    (hs : swapsWith value (some (.Attribute o attr pos')) pos.line C.env = pure false := by with_unfolding_all rfl) : Ex1 C (.Assign [.Attribute o attr pos'] value pos) σ H Qn Qr := fun B s S => by
  refine plainObj_wpAny_Assign_Attribute (h.use S.toSt fun u s₁ a H₁ v1 S1 _ h1 => ?_) hs
  refine h1.use S1 fun v s₂ b H₂ v2 S2 t2 hz => ?_
  obtain ⟨x, Cl, d, f, n, attrs, meths, init, e, K, hx, hd, ha, hn, q⟩ := hz
  subst e; obtain rfl := v2.r
  refine wpAny_mono (frame S2 (rel := fun _ _ (_ : Unit) => True) (t := setAttr (.ref x) attr u) (Q := fun _ H' => H' = H₂.put d (.att (attPut f attr a) (attLen f attr n))) fun B' S2' => ?_) (fun _ s₃ hz => ?_) fun _ _ x => x
  · exact setAttr_own K S2'.toH hx hd ha hn (v1.mono t2) fun s' S' => ⟨(), _, trivial, S', rfl⟩
  · obtain ⟨_, H', _, S3, _, e⟩ := hz; subst e; exact ⟨_, _, S.st S3, q⟩
end

section
variable {G : Gl} {A : Around} {H : AH} {Q : V → AH → Prop}
/-- C(..) -/
theorem Cl.make {C : Addr} {n : Nat} {rs : List V} {attrs meths init} (rm : Rm A (n + 1)) (K : Cls G C attrs meths init)
    (h : ∀ A' x d, Rm A' n → H x = none → H d = none → x ≠ d → Clc G A' (.ref init) (.ref x :: rs) ((H.put d (.att (fun _ => none) 0)).put x (.inst C d)) fun r H' => r = .none ∧ Q (.ref x) H') : Cl G A (.ref C) rs H Q := fun B s vs S R => by
  refine wpAny_call ?_
  obtain ⟨hh, g, dr, t, os⟩ := s
  refine make_core (makes_of S.X K.mks) (looks_findIn S.X K.ini) (fun self => bind_fn S.X self K.inf) (.inl rfl) ?_
  have fr := S.fresh
  dsimp only at fr
  have S1 := S.new emptyDict (.att (fun _ => none) 0) ⟨_, #[], _, Heap.get?_push_size _ rfl, rfl, fun _ he => by simp at he, Nat.le_refl _, fun _ => rfl⟩
  have S2 := S1.new (instObj C hh.objs.size) (.inst C hh.objs.size) (Heap.get?_push_size _ rfl)
  have fr1 := S1.fresh
  dsimp only at S1 S2 fr1
  have sz : (hh.push emptyDict).objs.size = hh.objs.size + 1 := Heap.size_push ..
  rw [sz] at fr1 S2
  have hne : hh.objs.size + 1 ≠ hh.objs.size := Nat.succ_ne_self _
  have := h (A.under (.builtin "type.__call__" ⟨.ref C :: vs, []⟩)) (hh.objs.size + 1) hh.objs.size (rm.make _ _ _) ((AH.put_ne _ _ hne).symm.trans fr1.1) fr.1 hne B _ (.ref (hh.objs.size + 1) :: vs) S2 (.cons (.ref _) (R.mono ((TupKeep.push _ _).trans (.push _ _))))
  refine codeAny_mono this fun r s' z => ?_
  rcases r with e | (v | _ | _ | _) <;> first | exact z.elim | skip
  obtain ⟨r, H', v1, S', e, q⟩ := z
  subst e; obtain rfl := v1.n
  exact ⟨rfl, _, H', .ref _, S', q⟩
end
end Mine
namespace Mine
open PySem PySem.W PySem.Calls PyProof.Rows

/-! ## data: equality and repr -/
mutual
/-- an abstract value read as data -/
inductive RD (H : AH) : V → PyData → Prop
  | none : RD H .none .none
  | bool (b) : RD H (.bool b) (.bool b)
  | int (i) : RD H (.int i) (.int i)
  | str (s) : RD H (.str s) (.str s)
  | tup {l ds} : RDs H l ds → RD H (.tup l) (.tuple ds)
  | list {a l ds} : H a = some (.list l) → RDs H l ds → RD H (.ref a) (.list ds)
inductive RDs (H : AH) : List V → List PyData → Prop
  | nil : RDs H [] []
  | cons {r d rs ds} : RD H r d → RDs H rs ds → RDs H (r :: rs) (d :: ds)
end
section
variable {G : Gl} {A : Around} {H : AH} {Q : V → AH → Prop} {B : Addr → Option Obj} {s : Shared}
mutual
theorem RD.reads (S : StH G B H s) {r d} (z : RD H r d) {v} (x : VR s.heap v r) : ∃ as, Reads s.heap v d as := by
  cases z with
  | none => obtain rfl := x.n; exact ⟨_, .none⟩
  | bool b => obtain rfl := x.b; exact ⟨_, .bool b⟩
  | int i => obtain ⟨t, rfl⟩ := x.i; exact ⟨_, .int i t⟩
  | str i => obtain ⟨t, rfl⟩ := x.s; exact ⟨_, .str i t⟩
  | tup h =>
    obtain ⟨_, _, _, _, rfl, e, c, d, x⟩ := x.t
    obtain ⟨as, q⟩ := RDs.reads S h x
    exact ⟨_, .tuple e c d q⟩
  | list e h =>
    obtain rfl := x.r
    obtain ⟨vs, n, e', il, vr, _⟩ := OR.isList (S.hr _ _ e)
    obtain ⟨as, q⟩ := RDs.reads S h vr
    exact ⟨_, .list e' rfl rfl q⟩
theorem RDs.reads (S : StH G B H s) {rs ds} (z : RDs H rs ds) {vs} (x : VRs s.heap vs rs) : ∃ as, ReadsAll s.heap vs ds as := by
  cases z with
  | nil => obtain rfl := x.n; exact ⟨_, .nil⟩
  | cons a b =>
    obtain ⟨_, _, rfl, x, y⟩ := x.c
    obtain ⟨as, q⟩ := RD.reads S a x
    obtain ⟨bs, p⟩ := RDs.reads S b y
    exact ⟨_, .cons q p⟩
end

theorem Do.eqD {n : Nat} {r1 r2 : V} {d1 d2 : PyData} (rm : Rm A (n + 7)) (h1 : RD H r1 d1) (h2 : RD H r2 d2) (s1 : SeqAt.shaped d1 = true) (s2 : SeqAt.shaped d2 = true) (h : Q (.bool (PyData.eqv d1 d2)) H) : Do G A [r1, r2] H (cmp .Eq) Q := .two fun B s u v S x y => by
  obtain ⟨as, p1⟩ := h1.reads S x
  obtain ⟨bs, p2⟩ := h2.reads S y
  exact SeqAt.compareEq_shaped p1 p2 s1 s2 (by have := rm.units; show A.units + 64 < 9900; omega) (PostV.mk' S (.bool _) h)
theorem Do.neD {n : Nat} {r1 r2 : V} {d1 d2 : PyData} (rm : Rm A (n + 7)) (h1 : RD H r1 d1) (h2 : RD H r2 d2) (s1 : SeqAt.shaped d1 = true) (s2 : SeqAt.shaped d2 = true) (h : Q (.bool (!PyData.eqv d1 d2)) H) : Do G A [r1, r2] H (cmp .NotEq) Q := .two fun B s u v S x y => by
  obtain ⟨as, p1⟩ := h1.reads S x
  obtain ⟨bs, p2⟩ := h2.reads S y
  exact SeqAt.compareNe_shaped p1 p2 s1 s2 (by have := rm.units; show A.units + 64 < 9900; omega) (PostV.mk' S (.bool _) h)

theorem Cl.repr {n : Nat} {r : V} {d : PyData} (rm : Rm A (n + 8)) (h1 : RD H r d) (hl : SeqAt.shaped d = true) (hs : d.showable = true) (hz : d.shown.length ≤ 2 ^ 20) (h : Q (.str d.shown) H) : Cl G A (.builtin "repr") [r] H Q := fun B s vs S R => by
  obtain ⟨u, rfl, x⟩ := R.one
  have big : ∀ a, (∃ as, Reads s.heap (.ref a) d as) → wpAny G.M A (call (.builtin "repr") [.ref a]) (PostV G B Q) Fls s := fun a ⟨as, q⟩ => by
    refine repr_of_reads' q hs (PyData.noDict_hsm (PyData.hasDict_of_canLay _ (SeqAt.canLay_of_shaped hl))) rm.guards (by have := rm.units; have := SeqAt.depth_of_shaped hl; show _ < 9900; omega) (fun _ _ e => e) (fun h' u tk hk => ?_) (Nat.le_trans hz (by rw [sizeLine_eq]; decide))
    exact ⟨_, H, .str _ _, ⟨S.os, S.gens, S.top, fun b o e => hk b o (S.keep b o e), fun a o e => OR.mono (S.hr a o e) (.of_keep hk) (fun ob e => hk _ _ e), S.apart⟩, h⟩
  cases h1 with
  | none => cases x; exact P.repr_of_none (PostV.mk' (S.tok _) (.str _ _) h)
  | bool b => cases x; exact P.repr_of_bool (PostV.mk' (S.tok _) (.str _ _) h)
  | int i => cases x; exact P.repr_of_int (of_decide_eq_true hs) (PostV.mk' (S.tok _) (.str _ _) h)
  | str i => cases x; exact P.repr_of_str (PostV.mk' (S.tok _) (.str _ _) h) (Nat.le_trans hz (by rw [sizeLine_eq]; decide))
  | tup q =>
    have := RD.reads S (.tup q) x
    cases x; exact big _ this
  | list e q =>
    have := RD.reads S (.list e q) x
    cases x; exact big _ this

/-! ## lists -/
theorem upd_list {s : Shared} {a : Addr} {vs : Array Value} {n : Nat} (e : s.heap.get? a = some (listOf vs n)) (f : Array Value → Array Value) : ∃ n', (s.heap.update a (Obj.mapSeq f)).get? a = some (listOf (f vs) n') :=
  ⟨_, Heap.get?_update_self _ e rfl⟩

theorem Gm.append {a l} (ha : H a = some (.list l)) : Gm G A (.ref a) "append" H (.builtin "list.append") [.ref a] H := fun B s ov pl S v => by
  cases v
  obtain ⟨vs, n, e, il, vr, z, z2⟩ := OR.isList (S.hr _ _ ha)
  exact getMethod_builtin il.typeIs PySem.F.plainAttrs_list PySem.F.slot_list_append PySem.F.type_list_append (fun b q => by cases q; exact ⟨_, e, rfl⟩) ⟨rfl, .cons (.ref _) .nil, S⟩
theorem Gm.extend {a l} (ha : H a = some (.list l)) : Gm G A (.ref a) "extend" H (.builtin "list.extend") [.ref a] H := fun B s ov pl S v => by
  cases v
  obtain ⟨vs, n, e, il, vr, z, z2⟩ := OR.isList (S.hr _ _ ha)
  exact getMethod_builtin il.typeIs PySem.F.plainAttrs_list PySem.F.slot_list_extend PySem.F.type_list_extend (fun b q => by cases q; exact ⟨_, e, rfl⟩) ⟨rfl, .cons (.ref _) .nil, S⟩
theorem Gm.pop {a l} (ha : H a = some (.list l)) : Gm G A (.ref a) "pop" H (.builtin "list.pop") [.ref a] H := fun B s ov pl S v => by
  cases v
  obtain ⟨vs, n, e, il, vr, z, z2⟩ := OR.isList (S.hr _ _ ha)
  exact getMethod_builtin il.typeIs PySem.F.plainAttrs_list PySem.F.slot_list_pop PySem.F.type_list_pop (fun b q => by cases q; exact ⟨_, e, rfl⟩) ⟨rfl, .cons (.ref _) .nil, S⟩

theorem Cl.append {a l r} (ha : H a = some (.list l)) (hz : l.length ≤ 2 ^ 20) (h : Q .none (H.put a (.list (l ++ [r])))) : Cl G A (.builtin "list.append") [.ref a, r] H Q := fun B s vs S R => by
  obtain ⟨u, v, rfl, x, y⟩ := R.two
  obtain rfl := x.r
  obtain ⟨vs, n, e, il, vr, z, z2⟩ := OR.isList (S.hr _ _ ha)
  obtain ⟨n', e'⟩ := upd_list (s := s) e (·.push v)
  refine call_meets PySem.F.slot_list_append il.typeIs PySem.F.entry_list_append (PySem.F.args_list_append_2 _ _) (AutoListH.list_append_list_val_0 a vs n v (by rw [sizeLine_eq]; omega)) ⟨e, ?_⟩
  have SB : Heap.SameBut a s.heap (s.heap.update a (Obj.mapSeq (·.push v))) := Heap.SameBut.update ..
  have tk := S.tk ha SB
  refine ⟨.none, _, .none, (S.upd ha SB (OR.mkList e' (by simpa using (vr.mono tk).snoc (y.mono tk)) (by simp; omega))).tok _, h⟩
theorem Cl.extend {a l b l2} (ha : H a = some (.list l)) (hb : H b = some (.list l2)) (hz : l.length ≤ 2 ^ 19) (hz2 : l2.length ≤ 2 ^ 19) (h : Q .none (H.put a (.list (l ++ l2)))) : Cl G A (.builtin "list.extend") [.ref a, .ref b] H Q := fun B s vs S R => by
  obtain ⟨u, v, rfl, x, y⟩ := R.two
  obtain rfl := x.r; obtain rfl := y.r
  obtain ⟨vs, n, e, il, vr, z, z2⟩ := OR.isList (S.hr _ _ ha)
  obtain ⟨us, m, e2, il2, vr2, z3, z4⟩ := OR.isList (S.hr _ _ hb)
  obtain ⟨n', e'⟩ := upd_list (s := s) e (· ++ us)
  refine call_meets PySem.F.slot_list_extend il.typeIs PySem.F.entry_list_extend (PySem.F.args_list_extend_2 _ _) (AutoSeq1.list_extend_list_list_0 a vs n b us m (by
    have : Builtin.List.listTooLong (vs.size + us.size) = false := by unfold Builtin.List.listTooLong; rw [sizeLine_eq]; simp; omega
    rw [this, Bool.and_false]; exact Bool.false_ne_true) (by rw [sizeLine_eq]; omega) (by rw [sizeLine_eq]; omega)) ⟨e, e2, ?_⟩
  have SB : Heap.SameBut a s.heap (s.heap.update a (Obj.mapSeq (· ++ us))) := Heap.SameBut.update ..
  have tk := S.tk ha SB
  refine ⟨.none, _, .none, (S.upd ha SB (OR.mkList e' (by simpa using (vr.mono tk).append (vr2.mono tk)) (by simp; omega))).tok _, h⟩
theorem Cl.pop {a l r} (ha : H a = some (.list (l ++ [r]))) (h : Q r (H.put a (.list l))) : Cl G A (.builtin "list.pop") [.ref a] H Q := fun B s vs S R => by
  obtain ⟨u, rfl, x⟩ := R.one
  obtain rfl := x.r
  obtain ⟨vs, n, e, il, vr, z, z2⟩ := OR.isList (S.hr _ _ ha)
  have zz : vs.size = l.length + 1 := by simpa using z
  obtain ⟨y, hy, hv⟩ := vr.get (i := l.length) (r := r) (by simp)
  have hy' : vs[vs.size - 1]? = some y := by rw [zz, ← Array.getElem?_toList]; simpa using hy
  obtain ⟨n', e'⟩ := upd_list (s := s) e (fun xs => xs.eraseIdxIfInBounds (vs.size - 1))
  refine call_meets PySem.F.slot_list_pop il.typeIs PySem.F.entry_list_pop (PySem.F.args_list_pop_1 _) (MeetsSeq.list_pop_last a vs n y hy' (by rw [sizeLine_eq]; omega)) ⟨e, ?_⟩
  have SB : Heap.SameBut a s.heap (s.heap.update a (Obj.mapSeq fun xs => xs.eraseIdxIfInBounds (vs.size - 1))) := Heap.SameBut.update ..
  have tk := S.tk ha SB
  have el : (vs.eraseIdxIfInBounds (vs.size - 1)).toList = vs.toList.take l.length := by
    have hlt : vs.size - 1 < vs.size := by omega
    rw [Array.eraseIdxIfInBounds, dif_pos hlt, Array.toList_eraseIdx]
    rw [List.eraseIdx_eq_take_drop_succ]
    have : vs.toList.drop (vs.size - 1 + 1) = [] := by apply List.drop_of_length_le; simp; omega
    rw [this, List.append_nil, zz]; rfl
  have vr' := (vr.mono tk).take l.length
  rw [List.take_left' rfl] at vr'
  exact ⟨r, _, hv.mono tk, (S.upd ha SB (OR.mkList e' (by rw [el]; exact vr') (by simp at z2; omega))), h⟩
end
end Mine
namespace Mine
open PySem PySem.W PySem.Calls PyProof.Rows

theorem setItem_list_neg {prog : Program} {w : World} {A : Around} {E : Value → Shared → Prop} {s : Shared} {l : Addr} {items : Array Value} {n : Nat} {k : Int} {t : Tok} {v : Value} {Q : Unit → Shared → Prop} (ho : s.heap.get? l = some (listOf items n))
    (h0 : k < 0) (h1 : -(items.size : Int) ≤ k) (hfit : -(2 ^ 63) ≤ k)
    (hQ : ∀ h' n', h'.get? l = some (listOf (items.setIfInBounds (k + items.size).toNat v) n') → Heap.SameBut l s.heap h' → Q () { s with heap := h' }) : wpAny (model prog w) A (setItem (.ref l) (.int k t) v) Q E s := by
  have hl : s.heap.IsList l items := ⟨_, ho, rfl, n, rfl⟩
  unfold setItem
  try with_reducible refine wpAny_holding ?_
  first | refine wpAny_bind (wpAny_pure ?_) | skip
  refine wpAny_bind (wpAny_sequenceKey hl.typeIs (by decide) ?_)
  refine wpAny_bind (wpAny_callSpecial?_slot (name := Str.ofString "__setitem__") hl.typeIs slot_list_setitem
    (wpAny_call_entry slot_list_setitem hl.typeIs entry_list_setitem ?_ (args_list_setitem _ _ _)))
  show wpAny _ _ (Builtin.List.listSubscript? (.int k t) >>= _) _ _ s
  refine wpAny_bind (wpAny_listSubscript_int (fitsIndex_neg h0 hfit) ?_)
  clear hfit
  have hidx := seqIndex_neg h0 h1
  have hj : (k + items.size).toNat < items.size := by omega
  obtain ⟨j, rfl⟩ : ∃ j : Nat, k = Int.negSucc j := by
    cases k with
    | ofNat n => exact absurd h0 (Int.not_lt.mpr (Int.natCast_nonneg n))
    | negSucc n => exact ⟨n, rfl⟩
  show wpAny _ _ ((Builtin.List.listItems (.ref l) >>= fun xs => pure ((seqIndex? (Int.negSucc j) xs.size).bind fun i => xs[i]?.map (i, ·))) >>= _) _ _ s
  refine wpAny_bind (wpAny_bind ?_)
  show wpAny _ _ (seqItems? (.ref l) >>= _) _ _ s
  refine wpAny_bind (wpAny_seqItems ho rfl (wpAny_pure (wpAny_pure ?_)))
  rw [hidx]
  simp only [Option.bind_some, Array.getElem?_eq_getElem hj, Option.map_some]
  obtain ⟨n', e'⟩ := upd_list (s := s) ho (·.setIfInBounds (Int.negSucc j + items.size).toNat v)
  refine wpAny_bind (wpAny_setSeqItemAt ho rfl ?_)
  first
    | exact wpAny_bind (wpAny_pure (wpAny_pure ⟨.none, rfl, wpAny_pure (hQ _ _ e' (Heap.SameBut.update ..))⟩))
    | exact wpAny_pure ⟨.none, rfl, wpAny_pure (hQ _ _ e' (Heap.SameBut.update ..))⟩

theorem VRs.set {h : Heap} : ∀ {vs rs} (i : Nat) {v r}, VRs h vs rs → VR h v r → VRs h (vs.set i v) (rs.set i r)
  | _, _, _, _, _, .nil, _ => .nil
  | _, _, 0, _, _, .cons a b, x => .cons x b
  | _, _, i + 1, _, _, .cons a b, x => .cons a (VRs.set i b x)
theorem VRs.reverse {h : Heap} : ∀ {vs rs}, VRs h vs rs → VRs h vs.reverse rs.reverse
  | _, _, .nil => .nil
  | _, _, .cons a b => by rw [List.reverse_cons, List.reverse_cons]; exact (VRs.reverse b).snoc a

theorem pick_rev (items : Array Value) : (slicePick items none none (some (-1))).toList = items.toList.reverse := by
  unfold slicePick sliceBounds sliceRange
  simp only [Option.getD_some, show ¬ ((-1 : Int) > 0) by decide, if_false]
  apply List.ext_getElem?
  intro i
  by_cases hi : i < items.size
  · have e1 : ((items.size : Int) - 1 > -1) := by omega
    have e2 : ((items.size : Int) - 1 - -1 - -1 - 1) / (- -1) = items.size := by simp
    rw [if_pos e1, e2]
    have key : ∀ k : Nat, k ≤ items.size → (((List.range k).map fun (k : Nat) => ((items.size : Int) - 1 + -1 * (k : Int)).toNat).filterMap (items[·]?)) = items.toList.reverse.take k := by
      intro k
      induction k with
      | zero => intro _; simp
      | succ k ih =>
        intro hk
        rw [List.range_succ, List.map_append, List.filterMap_append, ih (by omega), List.take_add_one]
        congr 1
        have e : ((items.size : Int) - 1 + -1 * (k : Int)).toNat = items.size - 1 - k := by omega
        simp only [List.map_cons, List.map_nil, List.filterMap_cons, List.filterMap_nil, e]
        rw [List.getElem?_reverse (by simpa using (by omega : k < items.size))]
        rw [Array.length_toList, Array.getElem?_toList]
        cases items[items.size - 1 - k]? <;> rfl
    have := key items.size (Nat.le_refl _)
    rw [Int.toNat_natCast]
    rw [this, List.take_of_length_le (by simp)]
  · have : items.toList.reverse[i]? = none := by rw [List.getElem?_eq_none_iff]; simpa using hi
    rw [this, List.getElem?_eq_none_iff]
    have h1 := slicePick_size_le items none none (some (-1))
    unfold slicePick sliceBounds sliceRange at h1
    simp only [Option.getD_some, show ¬ ((-1 : Int) > 0) by decide, if_false] at h1
    simp only [List.size_toArray] at h1
    omega

section
variable {C : Cx} {σ : Lo} {H : AH}
/-- a part of a slice -/
noncomputable def Ep (C : Cx) (e : Option Expr) (σ : Lo) (H : AH) (Q : Option Int → AH → Prop) : Prop :=
  ∀ B s, St C B σ H s → wpAny C.M C.A (evalPart e C.env) (PostG (fun _ v r => IsPart v r) C.G B Q) Fls s
theorem Ep.go {e Q B s} (h : Ep C e σ H Q) (S : St C B σ H s) : wpAny C.M C.A (evalPart e C.env) (fun u s' => ∃ r H', IsPart u r ∧ St C B σ H' s' ∧ TupKeep s.heap s'.heap ∧ Q r H') Fls s := frame S fun B S => h B s S
theorem Ep.use {e Q B s} (h : Ep C e σ H Q) (S : St C B σ H s) {Q' : Value → Shared → Prop} {E : Value → Shared → Prop} (k : ∀ u s' r H', IsPart u r → St C B σ H' s' → TupKeep s.heap s'.heap → Q r H' → Q' u s') : wpAny C.M C.A (evalPart e C.env) Q' E s :=
  wpF_mono (h.go S) fun u s' z => by obtain ⟨r, H', a, b, c, d⟩ := z; exact k u s' r H' a b c d
theorem Ep.none {Q : Option Int → AH → Prop} (h : Q Option.none H) : Ep C Option.none σ H Q := fun B s S => wpAny_pure ⟨_, H, .none, S.toH, h⟩
noncomputable abbrev KSome (Q : Option Int → AH → Prop) : V → AH → Prop := fun r H' => ∃ i, r = .int i ∧ Q (Option.some i) H'
noncomputable abbrev KNeg (Q : V → AH → Prop) : V → AH → Prop := fun r H' => ∃ i, r = .int i ∧ Q (.int (-i)) H'
noncomputable abbrev KSl4 (Q : V → AH → Prop) (o : V) (lo hi : Option Int) : Option Int → AH → Prop := fun k H₄ => ∃ a rs rs', o = .ref a ∧ H₄ a = Option.some (.list rs) ∧ k ≠ Option.some 0 ∧
      (∀ h vs, VRs h vs.toList rs → VRs h (slicePick vs lo hi k).toList rs') ∧ ∀ b, H₄ b = Option.none → Q (.ref b) (H₄.put b (.list rs'))
noncomputable abbrev KSl3 (C : Cx) (st : Option Expr) (σ : Lo) (Q : V → AH → Prop) (o : V) (lo : Option Int) : Option Int → AH → Prop := fun hi H₃ => Ep C st σ H₃ (KSl4 Q o lo hi)
noncomputable abbrev KSl2 (C : Cx) (u st : Option Expr) (σ : Lo) (Q : V → AH → Prop) (o : V) : Option Int → AH → Prop := fun lo H₂ => Ep C u σ H₂ (KSl3 C st σ Q o lo)
noncomputable abbrev KSl (C : Cx) (l u st : Option Expr) (σ : Lo) (Q : V → AH → Prop) : V → AH → Prop := fun o H₁ => Ep C l σ H₁ (KSl2 C u st σ Q o)
theorem Ep.some {e} {Q : Option Int → AH → Prop} (h : Ev C e σ H (KSome Q)) : Ep C (Option.some e) σ H Q := fun B s S =>
  wpAny_mono (h B s S) (fun u s' ⟨r, H', v, S', i, e, q⟩ => by subst e; cases v; exact ⟨_, H', .int _ _, S', q⟩) fun _ _ x => x

/-- l[a:b:c] -/
theorem Ev.slice {value l u st p pos} {Q : V → AH → Prop}
    (h : Ev C value σ H (KSl C l u st σ Q))
    (hs : ∀ o i, ∃ ops, subscripted (.Slice l u st p) false o i = operate ops (getItem o i) := by intro _ _; exact ⟨_, by with_unfolding_all rfl⟩) : Ev C (.Subscript value (.Slice l u st p) pos) σ H Q := fun B s S => by
  refine Subscript_ (h.use S fun o s₁ ro H₁ v1 S1 _ h1 => ?_)
  refine wpAny_Slice (h1.use S1 fun vl s₂ lo H₂ p2 S2 t2 h2 => ?_)
  refine h2.use S2 fun vu s₃ hi H₃ p3 S3 t3 h3 => ?_
  refine h3.use S3 fun vk s₄ k H₄ p4 S4 t4 hz => ?_
  obtain ⟨a, rs, rs', e, ha, h0, hp, q⟩ := hz
  subst e; obtain rfl := v1.r
  have S5 := S4.toH.push { cls := .type "slice", data := .fields #[vl, vu, vk] }
  obtain ⟨vs, n, e, il, vr, z, z2⟩ := OR.isList (S5.hr _ _ ha)
  obtain ⟨ops, hs⟩ := hs (.ref a) (.ref s₄.heap.objs.size)
  refine tail_any (s := { s₄ with heap := s₄.heap.push { cls := .type "slice", data := .fields #[vl, vu, vk] } }) il.typeIs slot_list_getitem.lookup (wpAny_getItem_list_slice il (Heap.IsSliceOf.new ..) p2 p3 p4 h0 ?_ (by rw [sizeLine_eq]; omega)) hs
  have vr' := hp _ vs vr
  refine ⟨_, _, .ref _, S5.new _ (.list rs') (.mkList (Heap.get?_push_size _ rfl) (vr'.mono (.push _ _)) ?_), q _ S5.fresh.1⟩
  have := slicePick_size_le vs lo hi k
  have := vr'.length
  rw [Array.length_toList] at this
  omega
theorem pick_from {rs : List V} {a : Nat} : ∀ (h : Heap) (vs : Array Value), VRs h vs.toList rs → VRs h (slicePick vs (some (a : Int)) none none).toList (rs.drop a) := fun h vs x => by
  rw [slicePick_from']; exact x.drop a
theorem pick_upto {rs : List V} {a : Nat} : ∀ (h : Heap) (vs : Array Value), VRs h vs.toList rs → VRs h (slicePick vs none (some (a : Int)) none).toList (rs.take a) := fun h vs x => by
  rw [slicePick_upto']; exact x.take a
theorem pick_back {rs : List V} : ∀ (h : Heap) (vs : Array Value), VRs h vs.toList rs → VRs h (slicePick vs none none (some (-1))).toList rs.reverse := fun h vs x => by
  rw [pick_rev]; exact x.reverse

theorem Ev.neg {x pos} {Q : V → AH → Prop} (h : Ev C x σ H (KNeg Q)) : Ev C (.UnaryOp .USub x pos) σ H Q := fun B s S => by
  rw [arm_eval_UnaryOp]
  refine wpAny_bind (wpAny_mono (h B s S) (fun u s₁ hz => ?_) fun _ _ x => x)
  obtain ⟨a, H₁, v1, S1, i, e, h1⟩ := hz
  subst e; obtain ⟨_, rfl⟩ := v1.i
  exact wpAny_bind (wpAny_standAt (wpAny_holding (neg_int ⟨_, H₁, .int _ _, S1.tok _, h1⟩)))

/-- o[i] = v -/
noncomputable def Si (G : Gl) (A : Around) (o i r : V) (H : AH) (Q : AH → Prop) : Prop :=
  ∀ B s ov iv v, StH G B H s → VR s.heap ov o → VR s.heap iv i → VR s.heap v r → wpAny G.M A (setItem ov iv v) (fun _ s' => ∃ H', StH G B H' s' ∧ Q H') Fls s
noncomputable abbrev KSi3 (C : Cx) (σ : Lo) (Qn : Lo → AH → Prop) (r ro : V) : V → AH → Prop := fun ri H₃ => Si C.G C.A ro ri r H₃ (Qn σ)
noncomputable abbrev KSi2 (C : Cx) (i : Expr) (σ : Lo) (Qn : Lo → AH → Prop) (r : V) : V → AH → Prop := fun ro H₂ => Ev C i σ H₂ (KSi3 C σ Qn r ro)
noncomputable abbrev KSi (C : Cx) (o i : Expr) (σ : Lo) (Qn : Lo → AH → Prop) : V → AH → Prop := fun r H₁ => Ev C o σ H₁ (KSi2 C i σ Qn r)
theorem Ex1.setitem {o i pos' value pos} {Qn : Lo → AH → Prop} {Qr : V → AH → Prop}
    (h : Ev C value σ H (KSi C o i σ Qn))
    (hs : swapsWith value (some (.Subscript o i pos')) pos.line C.env = pure false := by with_unfolding_all rfl) : Ex1 C (.Assign [.Subscript o i pos'] value pos) σ H Qn Qr := fun B s S => by
  refine wpAny_Assign_Subscript (h.use S.toSt fun u s₁ a H₁ v1 S1 _ h1 => ?_) hs
  refine h1.use S1 fun ov s₂ b H₂ v2 S2 t2 h2 => ?_
  refine h2.use S2 fun iv s₃ c H₃ v3 S3 t3 h3 => ?_
  refine wpAny_mono (frame S3 (rel := fun _ _ (_ : Unit) => True) (t := setItem ov iv u) (Q := fun _ H' => Qn σ H') fun B' S' => ?_) (fun _ s₄ ⟨_, H', _, S4, _, e⟩ => ⟨_, _, S.st S4, e⟩) fun _ _ x => x
  exact wpAny_mono (h3 B' s₃ ov iv u S'.toH (v2.mono t3) v3 ((v1.mono t2).mono t3)) (fun _ s' ⟨H', a, b⟩ => ⟨(), H', trivial, a, b⟩) fun _ _ x => x
end

section
variable {G : Gl} {A : Around} {H : AH} {Q : V → AH → Prop}
theorem Si.last {a l x r} {Q : AH → Prop} (ha : H a = some (.list (l ++ [x]))) (h : Q (H.put a (.list (l ++ [r])))) : Si G A (.ref a) (.int (-1)) r H Q := fun B s ov iv v S x1 x2 x3 => by
  obtain rfl := x1.r; obtain ⟨_, rfl⟩ := x2.i
  obtain ⟨vs, n, e, il, vr, z, z2⟩ := OR.isList (S.hr _ _ ha)
  have zz : vs.size = l.length + 1 := by simpa using z
  refine setItem_list_neg e (by omega) (by omega) (by omega) fun h' n' e' SB => ?_
  have tk := S.tk ha SB
  have vr' := (vr.mono tk).set l.length (x3.mono tk)
  have ei : ((-1 : Int) + vs.size).toNat = l.length := by omega
  rw [ei] at e'
  refine ⟨_, S.upd ha SB (OR.mkList e' (by simpa using vr') (by simpa using z2)), h⟩

theorem Do.last {value slice a l r} (ha : H a = some (.list (l ++ [r]))) (h : Q r H)
    (hs : ∀ u v, subscripted slice false u v = operate [u, v] (getItem u v) := by intro _ _; with_unfolding_all rfl) :
    Do G A [.ref a, .int (-1)] H (fun vs => subscriptTail value slice (vs.getD 0 .none) (vs.getD 1 .none)) Q :=
  Do.itemNeg ha (by decide) (by simp; omega) (by
    have : ((-1 : Int) + ((l ++ [r]).length : Int)).toNat = l.length := by simp; omega
    rw [this]; simp) h hs
theorem Do.addL {a b l l2} (ha : H a = some (.list l)) (hb : H b = some (.list l2)) (hz : l.length ≤ 2 ^ 19) (hz2 : l2.length ≤ 2 ^ 19) (h : ∀ c, H c = none → Q (.ref c) (H.put c (.list (l ++ l2)))) : Do G A [.ref a, .ref b] H (bin .Add) Q := .two fun B s u v S x y => by
  obtain rfl := x.r; obtain rfl := y.r
  obtain ⟨vs, n, e, il, vr, z, z2⟩ := OR.isList (S.hr _ _ ha)
  obtain ⟨us, m, e2, il2, vr2, z3, z4⟩ := OR.isList (S.hr _ _ hb)
  refine concat_meets il.typeIs il2.typeIs noFill_list_add seq_list_add PySem.F.slot_list_add PySem.F.entry_list_add (PySem.F.args_list_add_2 _ _) (AutoSeq1.list___add___list_list_0 a vs n b us m (by rw [sizeLine_eq]; omega)) ⟨e, e2, ?_⟩
  refine ⟨_, _, .ref _, (S.new _ (.list (l ++ l2)) (.mkList (Heap.get?_push_size _ rfl) ?_ ?_)).tok _, h _ S.fresh.1⟩
  · simpa using (vr.append vr2).mono (.push _ _)
  · simp; omega

/-! ## dicts -/
theorem StH.notMods {B s a o} (S : StH G B H s) (ha : H a = some o) : (a == sysModules) = false := by
  rw [beq_eq_false_iff_ne]
  rintro rfl
  obtain ⟨ob, e⟩ := G.low
  have := S.top _ _ e
  rw [S.apart _ _ ha] at this; cases this

noncomputable def sto {K : Type} [DecidableEq K] (kvs : List (K × V)) (k : K) (v : V) : List (K × V) :=
  if kvs.any (fun kv => kv.1 = k) then kvs.map (fun kv => if kv.1 = k then (kv.1, v) else kv) else kvs ++ [(k, v)]
noncomputable def at? {K : Type} [DecidableEq K] (kvs : List (K × V)) (k : K) : Option V := (kvs.find? fun kv => kv.1 = k).map (·.2)

theorem KR.any {K : Type} [DecidableEq K] {h : Heap} {k : K} {vs : List (K × Value)} {rs} (y : KR h vs rs) : vs.any (fun kv => kv.1 = k) = rs.any (fun kv => kv.1 = k) := by
  induction y with
  | nil => rfl
  | cons a b ih => rw [List.any_cons, List.any_cons, ih]
theorem KR.snoc {K : Type} {h : Heap} {k : K} {v r} {vs : List (K × Value)} {rs} (y : KR h vs rs) (x : VR h v r) : KR h (vs ++ [(k, v)]) (rs ++ [(k, r)]) := by
  induction y with
  | nil => exact .cons x .nil
  | cons a b ih => exact .cons a ih
theorem KR.map {K : Type} [DecidableEq K] {h : Heap} {k : K} {v r} (x : VR h v r) : ∀ {vs : List (K × Value)} {rs}, KR h vs rs → KR h (vs.map fun kv => if kv.1 = k then (kv.1, v) else kv) (rs.map fun kv => if kv.1 = k then (kv.1, r) else kv)
  | _, _, .nil => .nil
  | _, _, .cons (k := k') a b => by
    simp only [List.map_cons]
    by_cases q : k' = k
    · rw [if_pos q, if_pos q]; exact .cons x (b.map x)
    · rw [if_neg q, if_neg q]; exact .cons a (b.map x)
theorem KR.stored {K : Type} [DecidableEq K] {h : Heap} {k : K} {v r} {vs : List (K × Value)} {rs} (y : KR h vs rs) (x : VR h v r) : KR h (stored vs k v) (sto rs k r) := by
  unfold PySem.stored sto
  rw [← y.any]
  split
  · exact y.map x
  · exact y.snoc x
theorem KR.at {K : Type} [DecidableEq K] {h : Heap} {k : K} : ∀ {vs : List (K × Value)} {rs}, KR h vs rs → (∀ r, at? rs k = some r → ∃ v, valueAt vs k = some v ∧ VR h v r) ∧ (at? rs k = none → valueAt vs k = none)
  | _, _, .nil => ⟨fun _ e => (by cases e), fun _ => rfl⟩
  | _, _, .cons (k := k') a b => by
    unfold at? valueAt
    simp only [List.find?_cons]
    by_cases q : k' = k
    · simp only [q, decide_true, Option.map_some]
      exact ⟨fun r e => (by cases e; exact ⟨_, rfl, a⟩), fun e => (by cases e)⟩
    · simp only [q, decide_false]
      exact KR.at b
theorem KR.len {K : Type} {h : Heap} {vs : List (K × Value)} {rs} (x : KR h vs rs) : vs.length = rs.length := by
  induction x with
  | nil => rfl
  | cons _ b ih => exact congrArg Nat.succ ih
theorem sto_le {K : Type} [DecidableEq K] (kvs : List (K × V)) (k : K) (v : V) : (sto kvs k v).length ≤ kvs.length + 1 := by
  unfold sto; split <;> simp

theorem isS {prog w} (k : Str) (t) : (PySem.strKind prog w).is k (.str k t) = true := by simp [PySem.strKind, Value.isStrOf]
theorem isZ {prog w} (k : Int) (t) : (PySem.intKind prog w).is k (.int k t) = true := by simp [PySem.intKind, Value.isInt]
theorem Do.getS {value slice a kvs} {k : Str} {r : V} (ha : H a = some (.sd kvs)) (hr : at? kvs k = some r) (h : Q r H)
    (hs : ∀ u v, subscripted slice false u v = operate [u, v] (getItem u v) := by intro _ _; with_unfolding_all rfl) :
    Do G A [.ref a, .str k] H (fun vs => subscriptTail value slice (vs.getD 0 .none) (vs.getD 1 .none)) Q := .two fun B s u v S x y => by
  obtain rfl := x.r; obtain ⟨_, rfl⟩ := y.s
  obtain ⟨ks, D, kr, z⟩ := S.hr _ _ ha
  obtain ⟨v, e, hv⟩ := kr.at.1 _ hr
  exact tail_any D.typeIs slot_dict_getitem.lookup (wpAny_getItem_of (knd := PySem.strKind G.prog G.w) (k := k) (isS _ _) D.mapOf e ⟨r, H, hv, S.tok _, h⟩) (hs _ _)
theorem Si.str {a kvs} {k : Str} {r : V} {Q : AH → Prop} (ha : H a = some (.sd kvs)) (hz : kvs.length ≤ 2 ^ 20) (h : Q (H.put a (.sd (sto kvs k r)))) : Si G A (.ref a) (.str k) r H Q := fun B s ov iv v S x1 x2 x3 => by
  obtain rfl := x1.r; obtain ⟨_, rfl⟩ := x2.s
  obtain ⟨ks, D, kr, z⟩ := S.hr _ _ ha
  refine wpAny_setItem_pairs (knd := PySem.strKind G.prog G.w) (k := k) (isS _ _) D (fun h' D' SB => ?_) (by rw [sizeLine_eq, kr.len]; omega)
  have tk := S.tk ha SB
  exact ⟨_, (S.upd ha SB (o' := .sd (sto kvs k r)) ⟨_, D', (kr.mono tk).stored (x3.mono tk), by have := sto_le kvs k r; omega⟩).tok _, h⟩
theorem Si.int {a kvs} {k : Int} {r : V} {Q : AH → Prop} (ha : H a = some (.zd kvs)) (hz : kvs.length ≤ 2 ^ 20) (h : Q (H.put a (.zd (sto kvs k r)))) : Si G A (.ref a) (.int k) r H Q := fun B s ov iv v S x1 x2 x3 => by
  obtain rfl := x1.r; obtain ⟨_, rfl⟩ := x2.i
  obtain ⟨ks, D, kr, z⟩ := S.hr _ _ ha
  refine wpAny_setItem_pairs (knd := PySem.intKind G.prog G.w) (k := k) (isZ _ _) D (fun h' D' SB => ?_) (by rw [sizeLine_eq, kr.len]; omega)
  have tk := S.tk ha SB
  exact ⟨_, (S.upd ha SB (o' := .zd (sto kvs k r)) ⟨_, D', (kr.mono tk).stored (x3.mono tk), by have := sto_le kvs k r; omega⟩).tok _, h⟩
theorem Do.inS {a kvs} {k : Str} (ha : H a = some (.sd kvs)) (h : Q (.bool (at? kvs k).isSome) H) : Do G A [.str k, .ref a] H (cmp .In) Q := .two fun B s u v S x y => by
  obtain ⟨_, rfl⟩ := x.s; obtain rfl := y.r
  obtain ⟨ks, D, kr, z⟩ := S.hr _ _ ha
  have e : (valueAt ks k).isSome = (at? kvs k).isSome := by
    cases q : at? kvs k with
    | none => rw [kr.at.2 q]; rfl
    | some r => obtain ⟨v, e, _⟩ := kr.at.1 _ q; rw [e]; rfl
  exact wpAny_in_of (knd := PySem.strKind G.prog G.w) (k := k) (isS _ _) (S.notMods ha) D.mapOf ⟨_, H, .bool _, S.tok _, by rw [e]; exact h⟩
theorem Do.notInS {a kvs} {k : Str} (ha : H a = some (.sd kvs)) (h : Q (.bool (!(at? kvs k).isSome)) H) : Do G A [.str k, .ref a] H (cmp .NotIn) Q := .two fun B s u v S x y => by
  obtain ⟨_, rfl⟩ := x.s; obtain rfl := y.r
  obtain ⟨ks, D, kr, z⟩ := S.hr _ _ ha
  have e : (valueAt ks k).isSome = (at? kvs k).isSome := by
    cases q : at? kvs k with
    | none => rw [kr.at.2 q]; rfl
    | some r => obtain ⟨v, e, _⟩ := kr.at.1 _ q; rw [e]; rfl
  exact wpAny_notIn_of (knd := PySem.strKind G.prog G.w) (k := k) (isS _ _) (S.notMods ha) D.mapOf ⟨_, H, .bool _, S.tok _, by rw [e]; exact h⟩
theorem Gm.getS {a kvs} (ha : H a = some (.sd kvs)) : Gm G A (.ref a) "get" H (.builtin "dict.get") [.ref a] H := fun B s ov pl S v => by
  cases v
  obtain ⟨ks, D, kr, z⟩ := S.hr _ _ ha
  exact getMethod_builtin D.typeIs PySem.F.plainAttrs_dict PySem.F.slot_dict_get PySem.F.type_dict_get D.mapOf.noDict ⟨rfl, .cons (.ref _) .nil, S⟩
theorem Cl.getS {a kvs} {k : Str} (ha : H a = some (.sd kvs)) (h : Q ((at? kvs k).getD .none) H) : Cl G A (.builtin "dict.get") [.ref a, .str k] H Q := fun B s vs S R => by
  obtain ⟨u, v, rfl, x, y⟩ := R.two
  obtain rfl := x.r; obtain ⟨_, rfl⟩ := y.s
  obtain ⟨ks, D, kr, z⟩ := S.hr _ _ ha
  refine call_meetsIn PySem.F.slot_dict_get D.typeIs PySem.F.entry_dict_get (PySem.F.args_dict_get_2 _ _) (meets_dict_get (PySem.strKind G.prog G.w) a (k := k) (isS _ _) (S.notMods ha)) ⟨_, D.mapOf, ?_⟩
  cases q : at? kvs k with
  | none => rw [q] at h; rw [kr.at.2 q]; exact ⟨_, H, .none, S.tok _, h⟩
  | some r => rw [q] at h; obtain ⟨v, e, hv⟩ := kr.at.1 _ q; rw [e]; exact ⟨r, H, hv, S.tok _, h⟩
end
end Mine
namespace Mine
open PySem PySem.W PySem.Calls PyProof.Rows

section
variable {G : Gl} {A : Around} {H : AH} {Q : V → AH → Prop} {n : Nat}

theorem StH.ext {B s h' tk} (S : StH G B H s) (k : ∀ b o, s.heap.get? b = some o → h'.get? b = some o) : StH G B H { s with heap := h', toks := tk } :=
  ⟨S.os, S.gens, S.top, fun b o e => k _ _ (S.keep b o e), fun a o e => OR.mono (S.hr a o e) (.of_keep k) (fun ob e => k _ _ e), S.apart⟩

theorem Cl.max {a b : Int} (rm : Rm A n) (h : Q (.int (if b > a then b else a)) H) : Cl G A (.builtin "max") [.int a, .int b] H Q := fun B s vs S R => by
  obtain ⟨u, v, rfl, x, y⟩ := R.two
  obtain ⟨_, rfl⟩ := x.i; obtain ⟨_, rfl⟩ := y.i
  refine max_two_ints rm.handled fun h' tk k => ?_
  split
  · rename_i q; rw [if_pos q] at h; exact ⟨_, H, .int _ _, S.ext k, h⟩
  · rename_i q; rw [if_neg q] at h; exact ⟨_, H, .int _ _, S.ext k, h⟩

theorem VRs.ints {h : Heap} {vs : List Value} {is : List Int} (x : VRs h vs (is.map .int)) : ∃ xs : List (Int × Tok), vs = xs.map (fun p => .int p.1 p.2) ∧ xs.map (·.1) = is := by
  induction is generalizing vs with
  | nil => obtain rfl := VRs.n x; exact ⟨[], rfl, rfl⟩
  | cons i is ih =>
    obtain ⟨_, _, rfl, a, b⟩ := VRs.c x
    obtain ⟨t, rfl⟩ := a.i
    obtain ⟨xs, e1, e2⟩ := ih b
    exact ⟨(i, t) :: xs, by simp [e1], by simp [e2]⟩
theorem Cl.sum {a} {is : List Int} (rm : Rm A n) (ha : H a = some (.list (is.map .int))) (h : Q (.int is.sum) H) : Cl G A (.builtin "sum") [.ref a] H Q := fun B s vs S R => by
  obtain ⟨u, rfl, x⟩ := R.one
  obtain rfl := x.r
  obtain ⟨vs, m, e, il, vr, z, z2⟩ := OR.isList (S.hr _ _ ha)
  obtain ⟨xs, e1, e2⟩ := vr.ints
  have e3 : vs = intItems xs.toArray := by
    apply Array.toList_inj.mp; rw [e1]; simp [intItems]
  rw [e3] at il
  refine sum_intListG rm.handled il fun h' tk t' k => ?_
  rw [preSum_eq, List.take_of_length_le (by simp)]
  simp only [e2]
  exact ⟨_, H, .int _ _, S.ext k, h⟩

theorem Cl.intOf {i : Int} (h : Q (.int i) H) : Cl G A (.type "int") [.int i] H Q := fun B s vs S R => by
  obtain ⟨u, rfl, x⟩ := R.one
  obtain ⟨_, rfl⟩ := x.i
  exact call_int_int (PostV.mk' S (.int _ _) h)
theorem Cl.tupleOf {l : List V} (h : Q (.tup l) H) : Cl G A (.type "tuple") [.tup l] H Q := fun B s vs S R => by
  obtain ⟨u, rfl, x⟩ := R.one
  cases x with | tup e c d vr =>
  exact call_tuple_same ⟨_, e, c, _, d⟩ (PostV.mk' S (.tup e c d vr) h)
noncomputable def V.isB : V → Bool
  | .bool _ => true
  | _ => false
theorem Cl.isBool {r : V} (hr : r.scal = true) (h : Q (.bool r.isB) H) : Cl G A (.builtin "isinstance") [r, .lit (.type "bool")] H Q := fun B s vs S R => by
  obtain ⟨u, v, rfl, x, y⟩ := R.two
  obtain rfl := y.l
  cases x <;> first | cases hr | skip
  · exact IsiPair.NoneType_bool (PostV.mk' (S.tok _) (.bool _) h)
  · exact IsiPair.bool_bool (PostV.mk' S (.bool _) h)
  · exact IsiPair.int_bool (PostV.mk' (S.tok _) (.bool _) h)
  · exact IsiPair.str_bool (PostV.mk' (S.tok _) (.bool _) h)
theorem Kp.typ {T : String} : Kp G (.type T) := fun h _ => ⟨.machine, .inr (.inl rfl), fun h => by
  first | exact Looks.now h | exact Looks.of_pure rfl h⟩
end

/-! ## displays of dicts -/
section
variable {C : Cx} {σ : Lo} {H : AH}
theorem St.push {B s} (S : St C B σ H s) (ob : Obj) : St C B σ H { s with heap := s.heap.push ob } :=
  ⟨S.toH.push ob, S.frm.keep (H := H) S.hl (fun x c e => S.hcell e) (fun b o e => Heap.get?_push_of_some _ (of_Bmax e).2) (.push _ _), S.hl⟩

theorem Ev.dict0s {pos} {Q : V → AH → Prop} (h : ∀ b, H b = Option.none → Q (.ref b) (H.put b (.sd []))) : Ev C (.Dict [] [] pos) σ H Q := fun B s S =>
  wpAny_Dict_empty ⟨_, _, .ref _, S.toH.new _ (.sd []) ⟨[], .new _, .nil, Nat.zero_le _⟩, h _ S.toH.fresh.1⟩
theorem Ev.dict0z {pos} {Q : V → AH → Prop} (h : ∀ b, H b = Option.none → Q (.ref b) (H.put b (.zd []))) : Ev C (.Dict [] [] pos) σ H Q := fun B s S =>
  wpAny_Dict_empty ⟨_, _, .ref _, S.toH.new _ (.zd []) ⟨[], .new _, .nil, Nat.zero_le _⟩, h _ S.toH.fresh.1⟩

/-- what is over a place that nobody holds -/
theorem StH.over {G : Gl} {B s d h' ob} (S : StH G B H s) (hB : B d = none) (hH : H d = none) (ho : s.heap.get? d = some ob) (hd : ∀ vs n, ob.data ≠ .seq vs n) (SB : Heap.SameBut d s.heap h') : StH G B H { s with heap := h' } where
  os := S.os
  gens := S.gens
  top := S.top
  keep := fun b o e => (SB.2 b fun q => by subst q; rw [hB] at e; cases e).trans (S.keep b o e)
  hr := fun a o e => OR.mono (S.hr a o e) (.sameBut SB ho hd) fun ob e' => (SB.2 a fun q => by subst q; rw [hH] at e; cases e).trans e'
  apart := S.apart

noncomputable def merg {K : Type} [DecidableEq K] (kvs more : List (K × V)) : List (K × V) := more.foldl (fun acc kv => sto acc kv.1 kv.2) kvs
theorem KR.merged {K : Type} [DecidableEq K] {h : Heap} {ws : List (K × Value)} {ss : List (K × V)} {vs rs} (x : KR h vs rs) (y : KR h ws ss) : KR h (merged vs ws) (merg rs ss) := by
  induction y generalizing vs rs with
  | nil => exact x
  | cons a b ih => exact ih (x.stored a)
theorem merg_le {K : Type} [DecidableEq K] : ∀ (ss rs : List (K × V)), (merg rs ss).length ≤ rs.length + ss.length
  | [], rs => by simp [merg]
  | a :: t, rs => by
    have h1 := merg_le t (sto rs a.1 a.2)
    have h2 := sto_le rs a.1 a.2
    unfold merg at h1 ⊢
    simp only [List.foldl_cons, List.length_cons]
    omega

/-- pairs of a display -/
noncomputable def PairR {K : Type} [DecidableEq K] {prog w} (knd : PySem.KeyKind prog w K) (h : Heap) (vs : List (Value × Value)) (rs : List (K × V)) : Prop := ∃ kvs, Carries knd vs kvs ∧ KR h kvs rs
noncomputable def Ed {K : Type} [DecidableEq K] (C : Cx) (knd : PySem.KeyKind C.G.prog C.G.w K) (keys : List (Option Expr)) (values : List Expr) (pos : Pos) (σ : Lo) (H : AH) (Q : List (K × V) → AH → Prop) : Prop :=
  ∀ B s, St C B σ H s → wpAny C.M C.A (evalPairs (pairTrees keys values C.env pos)) (PostG (PairR knd) C.G B Q) Fls s
theorem Ed.nil {K : Type} [DecidableEq K] {knd : PySem.KeyKind C.G.prog C.G.w K} {pos} {Q : List (K × V) → AH → Prop} (h : Q [] H) : Ed C knd [] [] pos σ H Q := fun B s S =>
  pairTrees_nil_walk ⟨[], H, ⟨[], trivial, .nil⟩, S.toH, h⟩
theorem Ed.cons {K : Type} [DecidableEq K] {knd : PySem.KeyKind C.G.prog C.G.w K} {kx vx ks vs pos} {Q : List (K × V) → AH → Prop} (kv : K → V) (hkv : ∀ h v k, VR h v (kv k) → knd.is k v = true)
    (h : Ev C kx σ H fun r H₁ => ∃ k, r = kv k ∧ Ev C vx σ H₁ fun r' H₂ => Ed C knd ks vs pos σ H₂ fun l H₃ => Q ((k, r') :: l) H₃) : Ed C knd (some kx :: ks) (vx :: vs) pos σ H Q := fun B s S => by
  refine pairTrees_cons_walk (h.use S fun u s₁ a H₁ v1 S1 _ hz => ?_)
  obtain ⟨k, e, h1⟩ := hz
  subst e
  refine h1.use S1 fun v s₂ b H₂ v2 S2 t2 h2 => ?_
  refine wpAny_mono (frame S2 fun B' S2' => h2 B' s₂ S2') (fun l s₃ hz => ?_) fun _ _ x => x
  obtain ⟨rs, H₃, ⟨kvs, c, kr⟩, S3, t3, h3⟩ := hz
  exact ⟨_, H₃, ⟨(k, v) :: kvs, ⟨hkv _ _ _ v1, rfl, c⟩, .cons (v2.mono t3) kr⟩, S3.toH, h3⟩
theorem Ed.dict {K : Type} [DecidableEq K] {knd : PySem.KeyKind C.G.prog C.G.w K} (mk : List (K × V) → AO) (hmk : ∀ h a l, (∃ ks, h.DictOf knd a ks ∧ KR h ks l ∧ l.length ≤ 2 ^ 21) → OR C.G.prog C.G.w h a (mk l)) {keys values pos} {Q : V → AH → Prop}
    (hall : keys.all (·.isSome) = true) (hl : keys.length = values.length) (h0 : keys ≠ []) (hlen : keys.length ≤ 15)
    (h : Ed C knd keys values pos σ H fun l H' => l.length ≤ 15 ∧ ∀ b, H' b = none → Q (.ref b) (H'.put b (mk (merg [] l)))) : Ev C (.Dict keys values pos) σ H Q := fun B s S => by
  have S1 := S.push { cls := .type "dict", data := .dict #[] }
  have S1' : St C (Bmax H (s.heap.push { cls := .type "dict", data := .dict #[] })) σ H { s with heap := s.heap.push { cls := .type "dict", data := .dict #[] } } := ⟨S1.toH.max, S1.frm, S1.hl⟩
  have fr := S.toH.fresh
  have hd : (s.heap.push { cls := .type "dict", data := .dict #[] }).get? s.heap.objs.size = some { cls := .type "dict", data := .dict #[] } := Heap.get?_push_size _ rfl
  refine wpAny_Dict_walk (knd := knd) hall hl h0 hlen (wpAny_mono (h _ _ S1') (fun vs s₁ ⟨rs, H', ⟨kvs, c, kr⟩, S2, hz, q⟩ => ?_) fun _ _ x => x)
  have hb : Bmax H (s.heap.push { cls := .type "dict", data := .dict #[] }) s.heap.objs.size = some { cls := .type "dict", data := .dict #[] } := Bmax_some fr.1 hd
  have hd2 := S2.keep _ _ hb
  have hH' : H' s.heap.objs.size = none := by
    cases z : H' s.heap.objs.size with
    | none => rfl
    | some o => have := S2.apart _ _ z; rw [hb] at this; cases this
  refine ⟨kvs, c, ⟨_, #[], _, hd2, ⟨rfl, rfl, rfl⟩, rfl, ?_, ?_, .nil⟩, fun h' D SB => ?_⟩
  · exact fun e he => by simp at he
  · first | exact .nil | trivial | (simp [Pairs]) | exact List.Forall₂.nil
  · have S3 := S2.less (B := B) S1.toH.le S.toH.top
    have S4 := S3.over (d := s.heap.objs.size) fr.2 hH' hd2 (fun vs n e => by cases e) SB
    have tk : TupKeep s₁.heap h' := .sameBut SB hd2 fun vs n e => by cases e
    exact ⟨_, _, .ref _, (S4.put (o := mk (merg [] rs)) fr.2 (hmk _ _ _ ⟨_, D, KR.merged .nil (kr.mono tk), by have := merg_le rs []; simp at this; omega⟩)).tok _, q _ hH'⟩
theorem Ev.dictS {keys values pos} {Q : V → AH → Prop} (hall : keys.all (·.isSome) = true) (hl : keys.length = values.length) (h0 : keys ≠ []) (hlen : keys.length ≤ 15)
    (h : Ed C (PySem.strKind C.G.prog C.G.w) keys values pos σ H fun l H' => l.length ≤ 15 ∧ ∀ b, H' b = Option.none → Q (.ref b) (H'.put b (.sd (merg [] l)))) : Ev C (.Dict keys values pos) σ H Q :=
  Ed.dict .sd (fun h a l x => x) hall hl h0 hlen h
theorem Ev.dictZ {keys values pos} {Q : V → AH → Prop} (hall : keys.all (·.isSome) = true) (hl : keys.length = values.length) (h0 : keys ≠ []) (hlen : keys.length ≤ 15)
    (h : Ed C (PySem.intKind C.G.prog C.G.w) keys values pos σ H fun l H' => l.length ≤ 15 ∧ ∀ b, H' b = Option.none → Q (.ref b) (H'.put b (.zd (merg [] l)))) : Ev C (.Dict keys values pos) σ H Q :=
  Ed.dict .zd (fun h a l x => x) hall hl h0 hlen h
theorem Ed.consS {kx vx ks vs pos} {Q : List (Str × V) → AH → Prop}
    (h : Ev C kx σ H fun r H₁ => ∃ k, r = .str k ∧ Ev C vx σ H₁ fun r' H₂ => Ed C (PySem.strKind C.G.prog C.G.w) ks vs pos σ H₂ fun l H₃ => Q ((k, r') :: l) H₃) : Ed C (PySem.strKind C.G.prog C.G.w) (some kx :: ks) (vx :: vs) pos σ H Q :=
  Ed.cons .str (fun h v k x => by cases x; exact isS _ _) h
theorem Ed.consZ {kx vx ks vs pos} {Q : List (Int × V) → AH → Prop}
    (h : Ev C kx σ H fun r H₁ => ∃ k, r = .int k ∧ Ev C vx σ H₁ fun r' H₂ => Ed C (PySem.intKind C.G.prog C.G.w) ks vs pos σ H₂ fun l H₃ => Q ((k, r') :: l) H₃) : Ed C (PySem.intKind C.G.prog C.G.w) (some kx :: ks) (vx :: vs) pos σ H Q :=
  Ed.cons .int (fun h v k x => by cases x; exact isZ _ _) h
end
end Mine
namespace Mine
open PySem PySem.W PySem.Calls PyProof.Rows

/-! ## iterators -/
/-- all but some places is kept -/
noncomputable def Kx (own : List Addr) (h h' : Heap) : Prop := ∀ b o, b ∉ own → h.get? b = some o → h'.get? b = some o
theorem Kx.trans {own h h' h''} (x : Kx own h h') (y : Kx own h' h'') : Kx own h h'' := fun b o n e => y b o n (x b o n e)
theorem Kx.ext {own : List Addr} {a : Addr} {h h' : Heap} (ha : a ∈ own) (x : Heap.ExtBut a h h') : Kx own h h' := fun b o n e => x b o (fun q => n (q ▸ ha)) e
theorem Kx.keep {own : List Addr} {h h' : Heap} (x : ∀ b o, h.get? b = some o → h'.get? b = some o) : Kx own h h' := fun b o _ e => x b o e

noncomputable def Loose (h : Heap) (own : List Addr) : Prop := ∀ b ∈ own, ∃ o, h.get? b = some o ∧ ∀ vs n, o.data ≠ .seq vs n
theorem Kx.tup {own h h'} (x : Kx own h h') (l : Loose h own) : TupKeep h h' := fun a o vs n e c d => by
  by_cases q : a ∈ own
  · obtain ⟨o', e', h'⟩ := l a q
    rw [e] at e'; cases e'
    exact absurd d (h' vs n)
  · exact x a o q e
theorem StH.kx {G : Gl} {B H s h' tk own} (S : StH G B H s) (hf : ∀ b ∈ own, H b = none ∧ B b = none) (x : Kx own s.heap h') (l : Loose s.heap own) : StH G B H { s with heap := h', toks := tk } where
  os := S.os
  gens := S.gens
  top := S.top
  keep := fun b o e => x b o (fun q => by rw [(hf b q).2] at e; cases e) (S.keep b o e)
  hr := fun a o e => OR.mono (S.hr a o e) (x.tup l) fun ob e' => x a ob (fun q => by rw [(hf a q).1] at e; cases e) e'
  apart := S.apart

structure Iter (G : Gl) (A : Around) (target : Expr) (it : Addr) (own : List Addr) (rs : List V) (Hc : AH → Prop) (P : Nat → Heap → Prop) : Prop where
  frame : ∀ i h h', P i h → (∀ b ∈ own, ∀ o, h.get? b = some o → h'.get? b = some o) → TupKeep h h' → P i h'
  loose : ∀ i h, P i h → Loose h own
  self : ∀ i (s : Shared) (Q : Value → Shared → Prop), P i s.heap → Q (.ref it) s → wpAny G.M A (pyIter (.ref it)) Q Fls s
  next : ∀ B H s i, StH G B H s → P i s.heap → Hc H → (∀ b ∈ own, H b = none ∧ B b = none) → i ≤ rs.length →
    wpAny G.M A (pyNext (.ref it)) (fun r s' => match r with
      | none => i = rs.length ∧ StH G B H s' ∧ Kx own s.heap s'.heap
      | some v => wpAny G.M A (letOwnedTupleGo target (.ref it) v) (fun _ s'' => StH G B H s'' ∧ Kx own s.heap s''.heap ∧ P (i + 1) s''.heap ∧ ∃ rr, rs[i]? = some rr ∧ VR s''.heap v rr) Fls s') Fls s

theorem letgo_plain {M : Model} {A : Around} {E : Value → Shared → Prop} {s : Shared} {target : Expr} {it : Addr} {v : Value} {o : Obj} {n : String} {vs : Array Value} {Q : Unit → Shared → Prop} (ho : s.heap.get? it = some o) (hc : o.cls = .type n) (hd : o.data = .fields vs)
    (hn : (["enumerate", "zip", "dict_itemiterator", "dict_reverseitemiterator", "odict_iterator", "itertools.zip_longest", "itertools.pairwise"].contains n) = false) (hQ : Q () s) : wpAny M A (letOwnedTupleGo target (.ref it) v) Q E s := by
  unfold letOwnedTupleGo
  have key : wpAny M A (do
      let (.ref r, .ref a) := (Value.ref it, v) | return
      let o ← load r
      match o.cls, o.data with
      | .type n, .fields vs =>
        if ["enumerate", "zip", "dict_itemiterator", "dict_reverseitemiterator", "odict_iterator", "itertools.zip_longest", "itertools.pairwise"].contains n && vs[0]? == some (rawInt a) then
          rule "for.unpacks-the-owned-tuple"
          updateField r 0 .none
      | _, _ => pure () : Sem Unit) Q E s := by
    cases v <;> first | exact wpAny_pure hQ | skip
    refine wpAny_bind (wpAny_load ho ?_)
    rw [hc, hd]
    dsimp only
    rw [hn, Bool.false_and, if_neg Bool.false_ne_true]
    exact wpAny_pure hQ
  cases target <;> first | exact wpAny_pure hQ | exact key

theorem fresh_of {h h' : Heap} {b : Addr} (hb : h.objs.size ≤ b) : h.get? b = none := Heap.get?_none_of_le hb

/-- the iterator over a list -/
theorem Iter.list {G : Gl} {A : Around} {target : Expr} {it a : Addr} {l : List V} {n : Nat} (rm : Rm A n) (hne : a ≠ it) :
    Iter G A target it [it] l (fun H => H a = some (.list l)) (fun i h => h.IsListIter it a i) where
  frame := fun i h h' ⟨o, ho, r⟩ k _ => ⟨o, k it (by simp) o ho, r⟩
  loose := fun i h ⟨o, ho, hc, hd⟩ b hb => by simp at hb; subst hb; exact ⟨o, ho, fun vs n e => by rw [hd] at e; cases e⟩
  self := fun i s Q P h => wpAny_pyIter_listiter P h
  next := fun B H s i S P hc hf hi => by
    obtain ⟨vs, m, e, il, vr, z, z2⟩ := OR.isList (S.hr _ _ hc)
    have lo : Loose s.heap [it] := fun b hb => by
      obtain ⟨o, ho, hc, hd⟩ := P
      simp at hb; subst hb; exact ⟨o, ho, fun vs n e => by rw [hd] at e; cases e⟩
    cases q : l[i]? with
    | none =>
      have hle : l.length ≤ i := by simpa using q
      refine wpAny_pyNext_list_end rm.handled P il (by rw [Array.getElem?_eq_none_iff]; omega) fun h' x => ?_
      have kx : Kx [it] s.heap h' := .ext (by simp) x
      exact ⟨by omega, S.kx hf kx lo, kx⟩
    | some r =>
      obtain ⟨v, e1, hv⟩ := vr.get q
      refine wpAny_pyNext_list_item P il (by rw [← Array.getElem?_toList]; exact e1) fun h' P' SB => ?_
      have kx : Kx [it] s.heap h' := .ext (by simp) SB.extBut
      have P'' := P'
      obtain ⟨o, ho, hc', hd⟩ := P'
      exact letgo_plain (s := { s with heap := h' }) ho hc' hd (by decide) ⟨S.kx hf kx lo, kx, P'', r, rfl, hv.mono (kx.tup lo)⟩

/-- the iterator over a tuple -/
theorem Iter.tuple {G : Gl} {A : Around} {target : Expr} {it a : Addr} {vs : Array Value} {l : List V} {n m : Nat} {o : Obj} (rm : Rm A n) (hne : a ≠ it) (hc0 : o.cls = .type "tuple") (hd0 : o.data = .seq vs m) :
    Iter G A target it [it] l (fun _ => True) (fun i h => h.IsTupleIter it a i ∧ h.get? a = some o ∧ VRs h vs.toList l) where
  frame := fun i h h' ⟨⟨x, ho, r⟩, e, v⟩ k t => ⟨⟨x, k it (by simp) x ho, r⟩, t _ _ _ _ e hc0 hd0, v.mono t⟩
  loose := fun i h ⟨⟨o, ho, hc, hd⟩, _⟩ b hb => by simp at hb; subst hb; exact ⟨o, ho, fun vs n e => by rw [hd] at e; cases e⟩
  self := fun i s Q P h => wpAny_pyIter_tupleiter P.1 h
  next := fun B H s i S P hc hf hi => by
    obtain ⟨P, e, vr⟩ := P
    have il : s.heap.IsTuple a vs := ⟨o, e, hc0, m, hd0⟩
    have z : vs.size = l.length := by have := vr.length; simpa using this
    have lo : Loose s.heap [it] := fun b hb => by
      obtain ⟨o, ho, hc, hd⟩ := P
      simp at hb; subst hb; exact ⟨o, ho, fun vs n e => by rw [hd] at e; cases e⟩
    cases q : l[i]? with
    | none =>
      have hle : l.length ≤ i := by simpa using q
      refine wpAny_pyNext_tuple_end rm.handled P il (by rw [Array.getElem?_eq_none_iff]; omega) fun h' x => ?_
      have kx : Kx [it] s.heap h' := .ext (by simp) x
      exact ⟨by omega, S.kx hf kx lo, kx⟩
    | some r =>
      obtain ⟨v, e1, hv⟩ := vr.get q
      refine wpAny_pyNext_tuple_item P il (by rw [← Array.getElem?_toList]; exact e1) fun h' P' SB => ?_
      have kx : Kx [it] s.heap h' := .ext (by simp) SB.extBut
      have P'' := P'
      obtain ⟨o', ho, hc', hd⟩ := P'
      have tk := kx.tup lo
      exact letgo_plain (s := { s with heap := h' }) ho hc' hd (by decide) ⟨S.kx hf kx lo, kx, ⟨P'', tk _ _ _ _ e hc0 hd0, vr.mono tk⟩, r, rfl, hv.mono tk⟩

/-- the iterator of a range -/
theorem Iter.range {G : Gl} {A : Around} {target : Expr} {it : Addr} {x0 step : Int} {k n : Nat} (rm : Rm A n) :
    Iter G A target it [it] ((List.range k).map fun (j : Nat) => .int (x0 + j * step)) (fun _ => True) (fun i h => IsRangeIter h it (x0 + i * step) ((k : Int) - i) step) where
  frame := fun i h h' ho k t => k it (by simp) _ ho
  loose := fun i h ho b hb => by simp at hb; subst hb; exact ⟨_, ho, fun vs n e => by cases e⟩
  self := fun i s Q P h => wpAny_pyIter_rangeiter P h
  next := fun B H s i S P hc hf hi => by
    have lo : Loose s.heap [it] := fun b hb => by
      simp at hb; subst hb; exact ⟨_, P, fun vs n e => by cases e⟩
    simp only [List.length_map, List.length_range] at hi
    by_cases q : i < k
    · refine wpAny_pyNext_range_item P (by omega) fun h' P' SB => ?_
      have kx : Kx [it] s.heap h' := .ext (by simp) SB.extBut
      have e1 : x0 + (i : Int) * step + step = x0 + ((i + 1 : Nat) : Int) * step := by
        rw [Int.natCast_add, Int.add_mul]; simp; omega
      have e2 : ((k : Int) - i) - 1 = (k : Int) - ((i + 1 : Nat) : Int) := by omega
      rw [e1, e2] at P'
      exact letgo_plain (s := { s with heap := h', toks := s.toks + 1 }) P' rfl rfl (by decide) ⟨S.kx hf kx lo, kx, P', _, by simp [q], .int _ _⟩
    · refine wpAny_pyNext_range_end rm.handled P (by omega) fun h' x => ?_
      have kx : Kx [it] s.heap h' := .ext (by simp) x
      exact ⟨by simp; omega, S.kx hf kx lo, kx⟩

noncomputable def pairsFrom : Nat → List V → List V
  | _, [] => []
  | i, r :: t => .tup [.int (i : Int), r] :: pairsFrom (i + 1) t
theorem pairsFrom_get : ∀ {l : List V} {i k : Nat} {r : V}, l[i]? = some r → (pairsFrom k l)[i]? = some (.tup [.int ((k + i : Nat) : Int), r])
  | r :: t, 0, k, _, e => by cases e; rfl
  | r :: t, i + 1, k, _, e => by
    have := pairsFrom_get (l := t) (i := i) (k := k + 1) (by simpa using e)
    rw [show k + (i + 1) = k + 1 + i by omega]
    simpa [pairsFrom] using this
theorem pairsFrom_len : ∀ (l : List V) (k : Nat), (pairsFrom k l).length = l.length
  | [], _ => rfl
  | _ :: t, k => congrArg Nat.succ (pairsFrom_len t (k + 1))
noncomputable def pairsV (l : List V) : List V := pairsFrom 0 l
theorem pairsV_get {l : List V} {i : Nat} {r : V} (h : l[i]? = some r) : (pairsV l)[i]? = some (.tup [.int (i : Int), r]) := by
  have := pairsFrom_get (k := 0) h
  rwa [Nat.zero_add] at this
theorem pairsV_len (l : List V) : (pairsV l).length = l.length := pairsFrom_len l 0

/-- an enumerate over a list, its pairs taken apart -/
theorem Iter.enum {G : Gl} {A : Around} {elts : List Expr} {k : Nat} {tp : Pos} {e it a : Addr} {l : List V} {n : Nat} (rm : Rm A n) (hne : e ≠ it) (ha : a ≠ it) (hae : a ≠ e) :
    Iter G A (.Tuple elts k tp) e [e, it] (pairsV l) (fun H => H a = some (.list l)) (fun i h => (∃ old, IsEnum h e it (i : Int) old) ∧ h.IsListIter it a i) where
  frame := fun i h h' ⟨⟨old, he⟩, ⟨o, ho, r⟩⟩ k _ => ⟨⟨old, k e (by simp) _ he⟩, ⟨o, k it (by simp) o ho, r⟩⟩
  loose := fun i h ⟨⟨old, he⟩, ⟨o, ho, hc, hd⟩⟩ b hb => by
    simp at hb
    rcases hb with rfl | rfl
    · exact ⟨_, he, fun vs n e => by cases e⟩
    · exact ⟨o, ho, fun vs n e => by rw [hd] at e; cases e⟩
  self := fun i s Q ⟨⟨old, he⟩, _⟩ h => wpAny_pyIter_enum he h
  next := fun B H s i S P hc hf hi => by
    obtain ⟨⟨old, he⟩, P⟩ := P
    obtain ⟨vs, m, ee, il, vr, z, z2⟩ := OR.isList (S.hr _ _ hc)
    have lo : Loose s.heap [e, it] := fun b hb => by
      obtain ⟨o, ho, hc, hd⟩ := P
      simp at hb
      rcases hb with rfl | rfl
      · exact ⟨_, he, fun vs n e => by cases e⟩
      · exact ⟨o, ho, fun vs n e => by rw [hd] at e; cases e⟩
    rw [pairsV_len] at hi ⊢
    cases q : l[i]? with
    | none =>
      have hle : l.length ≤ i := by simpa using q
      refine wpAny_pyNext_enum_end rm.handled he P il (by rw [Array.getElem?_eq_none_iff]; omega) fun h' x => ?_
      have kx : Kx [e, it] s.heap h' := .ext (by simp) x
      exact ⟨by omega, S.kx hf kx lo, kx⟩
    | some r =>
      obtain ⟨v, e1, hv⟩ := vr.get q
      refine wpAny_pyNext_enum_item he P il (by rw [← Array.getElem?_toList]; exact e1) hne fun h' he' P' ht hz hk => ?_
      have kx : Kx [e, it] s.heap h' := fun b o nb eb => hk b o (fun q => nb (q ▸ by simp)) (fun q => nb (q ▸ by simp)) eb
      have tk := kx.tup lo
      refine wpAny_letOwnedTupleGo_enum (s := { s with heap := h', toks := s.toks + 1 }) he' fun h'' he'' SB => ?_
      have lo' : Loose h' [e] := fun b hb => by simp at hb; subst hb; exact ⟨_, he', fun vs n e => by cases e⟩
      have kx2 : Kx [e] h' h'' := .ext (by simp) SB.extBut
      have tk2 := kx2.tup lo'
      have kx3 : Kx [e, it] s.heap h'' := kx.trans fun b o nb eb => kx2 b o (fun q => nb (by simp at q; simp [q])) eb
      have ltH : e < s.heap.objs.size := Heap.lt_size he
      refine ⟨S.kx hf kx3 lo, kx3, ⟨⟨_, by exact_mod_cast he''⟩, ?_⟩, _, pairsV_get q, ?_⟩
      · obtain ⟨o, ho, r⟩ := P'
        exact ⟨o, (SB.2 it (Ne.symm hne)).trans ho, r⟩
      · refine (VR.tup ht rfl rfl ?_ : VR h' _ _).mono tk2
        exact .cons (.int _ _) (.cons (hv.mono tk) .nil)

/-! ## what is iterated over -/
section
variable {C : Cx} {σ : Lo} {H : AH} {target : Expr}
noncomputable def Ei (C : Cx) (target iter : Expr) (σ : Lo) (H : AH) (Q : List V → (AH → Prop) → AH → Prop) : Prop :=
  ∀ B s, St C B σ H s → wpAny C.M C.A (eval iter C.env) (fun x s₁ => wpAny C.M C.A (pyIter x) (fun itv s₂ => ∃ it own rs Hc P H', itv = .ref it ∧ Iter C.G C.A target it own rs Hc P ∧ P 0 s₂.heap ∧
    (∀ b ∈ own, H' b = none ∧ B b = none) ∧ StH C.G B H' s₂ ∧ Q rs Hc H') Fls s₁) Fls s

noncomputable abbrev KEiL (Q : List V → (AH → Prop) → AH → Prop) : V → AH → Prop := fun r H' => ∃ a l, r = .ref a ∧ H' a = some (.list l) ∧ Q l (fun H => H a = some (.list l)) H'
theorem Ei.list {iter} {Q : List V → (AH → Prop) → AH → Prop} (h : Ev C iter σ H (KEiL Q)) : Ei C target iter σ H Q := fun B s S => by
  refine wpAny_mono (h B s S) (fun u s₁ hz => ?_) fun _ _ x => x
  obtain ⟨r, H₁, v1, S1, a, l, e, ha, q⟩ := hz
  subst e; obtain rfl := v1.r
  obtain ⟨vs, n, e, il, vr, z, z2⟩ := OR.isList (S1.hr _ _ ha)
  refine wpAny_pyIter_list il ⟨_, [s₁.heap.objs.size], l, _, _, H₁, rfl, Iter.list C.rm (Nat.ne_of_lt (Heap.lt_size e)), ⟨_, Heap.get?_push_size _ rfl, rfl, rfl⟩, ?_, S1.push _, q⟩
  intro b hb
  simp at hb; subst hb
  exact S1.fresh
theorem Ei.tuple {iter} {Q : List V → (AH → Prop) → AH → Prop} (h : Ev C iter σ H fun r H' => ∃ l, r = .tup l ∧ Q l (fun _ => True) H') : Ei C target iter σ H Q := fun B s S => by
  refine wpAny_mono (h B s S) (fun u s₁ hz => ?_) fun _ _ x => x
  obtain ⟨r, H₁, v1, S1, l, e, q⟩ := hz
  subst e
  cases v1 with | tup e c d vr =>
  refine wpAny_pyIter_tuple ⟨_, e, c, _, d⟩ ⟨_, [s₁.heap.objs.size], l, _, _, H₁, rfl, Iter.tuple C.rm (Nat.ne_of_lt (Heap.lt_size e)) c d, ⟨⟨_, Heap.get?_push_size _ rfl, rfl, rfl⟩, Heap.get?_push_of_some _ e, vr.mono (.push _ _)⟩, ?_, S1.push _, q⟩
  intro b hb
  simp at hb; subst hb
  exact S1.fresh

/-- what a range yields -/
noncomputable def rangeV (k : Nat) (x0 step : Int) : List V := (List.range k).map fun (j : Nat) => .int (x0 + j * step)
noncomputable abbrev rangeObj (a b c : Int) (t u v : Tok) : Obj := { cls := .type "range", dict := none, data := .fields #[.int a t, .int b u, .int c v], slots := #[] }
noncomputable abbrev iterObj (a : Addr) : Obj := { cls := .type "list_iterator", data := .fields #[.ref a, .int 0 0] }
noncomputable abbrev enumObj (it : Addr) : Obj := { cls := .type "enumerate", dict := none, data := .fields #[.none, .bool false, .ref it, rawInt 0, .none, .none], slots := #[] }

theorem StH.drop {G : Gl} {B H s a o} (S : StH G B (AH.put H a o) s) (ha : H a = none) : StH G B H s where
  os := S.os
  gens := S.gens
  top := S.top
  keep := S.keep
  hr := fun b o' e => S.hr b o' (by rw [AH.put_ne _ _ (fun q => by subst q; rw [ha] at e; cases e)]; exact e)
  apart := fun b o' e => S.apart b o' (by rw [AH.put_ne _ _ (fun q => by subst q; rw [ha] at e; cases e)]; exact e)

noncomputable abbrev KEiR (Q : List V → (AH → Prop) → AH → Prop) : V → AH → Prop := fun r H'' => ∃ a H' x0 b c t u v, ∃ k : Nat, r = .ref a ∧ H'' = AH.put H' a (.raw (rangeObj x0 b c t u v)) ∧ H' a = none ∧
    Builtin.Range.small x0 b c = true ∧ Builtin.Range.rangeSize x0 b c = k ∧ Q (rangeV k x0 c) (fun _ => True) H'
theorem Ei.range {iter} {Q : List V → (AH → Prop) → AH → Prop} (h : Ev C iter σ H (KEiR Q)) : Ei C target iter σ H Q := fun B s S => by
  refine wpAny_mono (h B s S) (fun w s₁ hz => ?_) fun _ _ x => x
  obtain ⟨r, H₁, v1, S1, a, H', x0, b, c, t, u, v, k, e, eH, ha, hs, hk, q⟩ := hz
  subst e eH; obtain rfl := v1.r
  have R := S1.hr a _ (AH.put_self _ _ _)
  have S2 := S1.drop ha
  refine wpAny_pyIter_range R.1 hs ⟨_, [s₁.heap.objs.size], _, _, _, H', rfl, Iter.range (x0 := x0) (step := c) (k := k) C.rm, ?_, ?_, S2.push _, q⟩
  · have := Heap.get?_push_size s₁.heap (o := { cls := .type "range_iterator", data := .fields #[rawInt x0, rawInt (Builtin.Range.rangeSize x0 b c), rawInt c] }) rfl
    rw [hk] at this
    show _ = _
    simpa [hk] using this
  · intro b hb
    simp at hb; subst hb
    exact S2.fresh
noncomputable abbrev KEiE (Q : List V → (AH → Prop) → AH → Prop) : V → AH → Prop := fun r H'' => ∃ e it o H' a l, r = .ref e ∧ H'' = AH.put (AH.put H' it (.raw o)) e (.raw (enumObj it)) ∧ o.cls = .type "list_iterator" ∧ o.data = .fields #[.ref a, .int ((0 : Nat) : Int) 0] ∧ H' it = none ∧ H' e = none ∧ e ≠ it ∧ H' a = some (.list l) ∧
    Q (pairsV l) (fun H => H a = some (.list l)) H'
theorem Ei.enum {elts k tp iter} {Q : List V → (AH → Prop) → AH → Prop} (h : Ev C iter σ H (KEiE Q)) : Ei C (.Tuple elts k tp) iter σ H Q := fun B s S => by
  refine wpAny_mono (h B s S) (fun w s₁ hz => ?_) fun _ _ x => x
  obtain ⟨r, H₁, v1, S1, e, it, o, H', a, l, er, eH, o1, o2, h1, h2, hne, ha, q⟩ := hz
  subst er eH; obtain rfl := v1.r
  have R := S1.hr e _ (AH.put_self _ _ _)
  have R2 := S1.hr it _ (by rw [AH.put_ne _ _ hne.symm]; exact AH.put_self _ _ _)
  have be : B e = none := S1.apart e _ (AH.put_self _ _ _)
  have bi : B it = none := S1.apart it _ (by rw [AH.put_ne _ _ hne.symm]; exact AH.put_self _ _ _)
  have S2 := (S1.drop (by rw [AH.put_ne _ _ hne]; exact h2)).drop h1
  refine wpAny_pyIter_enum R.1 ⟨_, [e, it], _, _, _, H', rfl, Iter.enum C.rm hne (fun q => by subst q; rw [h1] at ha; cases ha) (fun q => by subst q; rw [h2] at ha; cases ha), ⟨⟨_, R.1⟩, ⟨_, R2.1, o1, o2⟩⟩, ?_, S2, q⟩
  intro b hb
  simp at hb
  rcases hb with rfl | rfl
  · exact ⟨h2, be⟩
  · exact ⟨h1, bi⟩
end

section
variable {G : Gl} {A : Around} {H : AH} {Q : V → AH → Prop}
theorem Cl.range1 {n : Int} (h : ∀ a t u v, H a = none → Q (.ref a) (AH.put H a (.raw (rangeObj 0 n 1 t u v)))) : Cl G A (.type "range") [.int n] H Q := fun B s vs S R => by
  obtain ⟨u, rfl, x⟩ := R.one
  obtain ⟨_, rfl⟩ := x.i
  exact call_range_1 ⟨_, _, .ref _, ((S.new (rangeObj 0 n 1 s.toks _ (s.toks + 1)) (.raw _) ⟨Heap.get?_push_size _ rfl, _, rfl⟩).tok _), h _ _ _ _ S.fresh.1⟩
theorem Cl.range3 {a b c : Int} (hc : c ≠ 0) (hp : c.natAbs < 1073741824) (h : ∀ x t u v, H x = none → Q (.ref x) (AH.put H x (.raw (rangeObj a b c t u v)))) : Cl G A (.type "range") [.int a, .int b, .int c] H Q := fun B s vs S R => by
  obtain ⟨u, v, w, rfl, x, y, z⟩ := R.three
  obtain ⟨_, rfl⟩ := x.i; obtain ⟨_, rfl⟩ := y.i; obtain ⟨_, rfl⟩ := z.i
  exact call_range_3 hc ⟨_, _, .ref _, ((S.new (rangeObj a b c _ _ _) (.raw _) ⟨Heap.get?_push_size _ rfl, _, rfl⟩).tok _), h _ _ _ _ S.fresh.1⟩ (.inl (PyProof.noPylong_small hp))
theorem Cl.enum {a l} (ha : H a = some (.list l)) (h : ∀ e it o, H it = none → H e = none → e ≠ it → o.cls = .type "list_iterator" → o.data = .fields #[.ref a, .int ((0 : Nat) : Int) 0] → Q (.ref e) (AH.put (AH.put H it (.raw o)) e (.raw (enumObj it)))) : Cl G A (.type "enumerate") [.ref a] H Q := fun B s vs S R => by
  obtain ⟨u, rfl, x⟩ := R.one
  obtain rfl := x.r
  obtain ⟨vs, n, e, il, vr, z, z2⟩ := OR.isList (S.hr _ _ ha)
  refine call_enumerate_1 e fun h' he hi hz hk => ?_
  have S1 : StH G B H { s with heap := h' } := S.ext (tk := s.toks) hk
  obtain ⟨o, ho, hc, hd⟩ := hi
  have fr : ∀ b : Nat, s.heap.objs.size ≤ b → H b = none ∧ B b = none := fun b hb => by
    constructor
    · cases q : H b with
      | none => rfl
      | some o => obtain ⟨ob, e', _⟩ := (S.hr _ _ q).obj; exact absurd (Heap.lt_size e') (Nat.not_lt.mpr hb)
    · cases q : B b with
      | none => rfl
      | some o => exact absurd (Heap.lt_size (S.keep _ _ q)) (Nat.not_lt.mpr hb)
  have f0 := fr s.heap.objs.size (Nat.le_refl _)
  have f1 := fr (s.heap.objs.size + 1) (Nat.le_succ _)
  have hne : s.heap.objs.size + 1 ≠ s.heap.objs.size := Nat.succ_ne_self _
  have S2 := S1.put (o := .raw o) f0.2 ⟨ho, _, hd⟩
  have S3 := S2.put (o := .raw (enumObj s.heap.objs.size)) f1.2 ⟨he, _, rfl⟩
  exact ⟨_, _, .ref _, S3, h _ _ _ f0.1 f1.1 hne hc hd⟩
end
end Mine
namespace Mine
open PySem PySem.W PySem.Calls PyProof.Rows

/-! ## targets -/
noncomputable def Lo.puts (σ : Lo) (bs : List (Str × V)) : Lo := bs.foldl (fun σ b => σ.put b.1 b.2) σ
noncomputable def nameOf? : Expr → Option Str
  | .Name x _ => some x
  | _ => none
noncomputable def zipNames : List Expr → List V → Option (List (Str × V))
  | [], [] => some []
  | e :: es, r :: rs => (nameOf? e).bind fun x => (zipNames es rs).map ((x, r) :: ·)
  | _, _ => none
noncomputable def tgBinds : Expr → V → Option (List (Str × V))
  | .Name x _, r => some [(x, r)]
  | .Tuple es _ _, .tup rs => zipNames es rs
  | _, _ => none

inductive ZN : List Expr → List V → List (Str × V) → Prop
  | nil : ZN [] [] []
  | cons {x p es r rs bs} : ZN es rs bs → ZN (.Name x p :: es) (r :: rs) ((x, r) :: bs)
theorem nameOf_eq {e : Expr} {x : Str} (h : nameOf? e = some x) : ∃ p, e = .Name x p := by
  cases e <;> first | (cases h; exact ⟨_, rfl⟩) | exact nomatch h
theorem zipNames_zn : ∀ (es : List Expr) (rs : List V) {bs}, zipNames es rs = some bs → ZN es rs bs := fun es => by
  induction es with
  | nil => intro rs bs h; cases rs with
    | nil => cases h; exact .nil
    | cons _ _ => cases h
  | cons e es ih => intro rs bs h; cases rs with
    | nil => cases h
    | cons r rs =>
      obtain ⟨x, hx, h⟩ := Option.bind_eq_some_iff.mp h
      obtain ⟨b, h1, rfl⟩ := Option.map_eq_some_iff.mp h
      obtain ⟨p, rfl⟩ := nameOf_eq hx
      exact .cons (ih rs h1)

/-- all tuples outlive a turn -/
theorem StW.tupFr {C : Cx} {σ : Lo} {H H' : AH} {B s s'} (S : StW C B σ H s) (S' : StH C.G (Bfr C H s.heap) H' s') : TupKeep s.heap s'.heap := fun a o vs n e c d => S'.keep a o (Bfr_some (fun q => by
    rcases q with rfl | ⟨_, x, hx, hx2⟩
    · obtain ⟨m, ⟨o', es, ep, ho', hd', _⟩, _⟩ := S.toSt.frm.ns
      rw [e] at ho'; cases ho'; rw [d] at hd'; cases hd'
    · obtain ⟨v, ⟨o', ho', hd'⟩, _⟩ := S.toSt.frm.cell x a hx2
      rw [e] at ho'; cases ho'; rw [d] at hd'; cases hd') (by
  cases q : H a with
  | none => rfl
  | some y =>
    obtain ⟨ob, e1, e2, _⟩ := (S.toSt.toH.hr a y q).obj
    rw [e] at e1; cases e1
    exact absurd d (e2 _ _ c)) e)
section
variable {C : Cx} {σ : Lo} {H : AH}
theorem assigns {es : List Expr} {rs : List V} {bs} (h : ZN es rs bs) : ∀ {σ : Lo} {B s} {vs : List Value}, (∀ b ∈ bs, Own C b.1) → StW C B σ H s → VRs s.heap vs rs →
    (assignEach es C.env).length = rs.length ∧ (assignEach es C.env).findIdx? (·.1) = none ∧
    wpAny C.M C.A (assignInOrder ((assignEach es C.env).map (·.2)) vs) (fun _ s' => StW C B (σ.puts bs) H s') Fls s := by
  induction h with
  | nil =>
    intro σ B s vs o S R
    cases R
    exact ⟨rfl, rfl, assignInOrder_nil S⟩
  | @cons x p es r rs bs hz ih =>
    intro σ B s vs o S R
    cases R with | cons a R =>
    have e : assignEach (.Name x p :: es) C.env = (false, assign (.Name x p) C.env) :: assignEach es C.env := rfl
    rw [e]
    have ih0 := ih (fun b hb => o b (List.mem_cons_of_mem _ hb)) S R
    refine ⟨by simpa using ih0.1, by simp [List.findIdx?_cons, ih0.2.1], ?_⟩
    refine assignInOrder_cons (wpAny_assign_Name (S.put a (o _ List.mem_cons_self) fun s' S' tk => ?_))
    exact (ih (fun b hb => o b (List.mem_cons_of_mem _ hb)) S' (R.mono tk)).2.2

theorem StW.ext {B s h' tk} (S : StW C B σ H s) (k : ∀ b o, s.heap.get? b = some o → h'.get? b = some o) : StW C B σ H { s with heap := h', toks := tk } :=
  S.st ⟨S.toSt.toH.ext k, S.toSt.frm.keep (H := H) S.toSt.hl (fun x c e => S.toSt.hcell e) (fun b o e => k _ _ (of_Bmax e).2) (.of_keep k), S.toSt.hl⟩

theorem As.tg {target r bs} {Q : Lo → AH → Prop} (hb : tgBinds target r = some bs) (o : ∀ b ∈ bs, Own C b.1) (h : Q (σ.puts bs) H) : As C target r σ H Q := fun B s v S hv => by
  cases target with
  | Name x p =>
    cases hb
    exact wpAny_assign_Name (S.put hv (o _ List.mem_cons_self) fun s' S' _ => ⟨_, _, S', h⟩)
  | Tuple es k p =>
    cases r with
    | tup rs =>
      have hb : zipNames es rs = some bs := hb
      cases hv with | tup e c d vr =>
      rename_i a ob vs n
      have hl : vs.size = rs.length := by have := vr.length; simpa using this
      have z := assigns (zipNames_zn _ _ hb) o S vr
      refine wpAny_assign_Tuple C.rm.handled ⟨_, e, c, _, d⟩ (z.1.trans hl.symm) z.2.1 fun h' x => ?_
      have k : ∀ b o, s.heap.get? b = some o → h'.get? b = some o := fun b o e => x b o (Nat.ne_of_lt (Heap.lt_size e)) e
      exact wpAny_mono (assigns (zipNames_zn _ _ hb) o (S.ext (tk := s.toks) k) (vr.mono (.of_keep k))).2.2 (fun _ s' S' => ⟨_, _, S', h⟩) fun _ _ x => x
    | _ => cases hb
  | _ => cases hb

/-- what is over the iterator's own places -/
theorem StW.kx {B s s' own} (S : StW C B σ H s) (hf : ∀ b ∈ own, H b = none ∧ B b = none ∧ b ≠ C.env.locals ∧ ∀ x, C.env.cells.lookup x ≠ some b) (S' : StH C.G B H s') (x : Kx own s.heap s'.heap) (l : Loose s.heap own) : StW C B σ H s' := by
  refine S.st ⟨S', ⟨?_, fun y c e => ?_⟩, S.toSt.hl⟩
  · obtain ⟨m, ⟨o, es, ep, ho, r⟩, hm⟩ := S.toSt.frm.ns
    exact ⟨m, ⟨o, es, ep, x _ _ (fun q => (hf _ q).2.2.1 rfl) ho, r⟩, fun y r' a b => by obtain ⟨v, h1, h2⟩ := hm y r' a b; exact ⟨v, h1, h2.mono (x.tup l)⟩⟩
  · obtain ⟨v, ⟨o, ho, hd⟩, hm⟩ := S.toSt.frm.cell y c e
    exact ⟨v, ⟨o, x _ _ (fun q => (hf _ q).2.2.2 y e) ho, hd⟩, fun r' a b => by obtain ⟨v, h1, h2⟩ := hm r' a b; exact ⟨v, h1, h2.mono (x.tup l)⟩⟩

/-- the frame's own dict may be anew, but says the same -/
noncomputable def Eiw (C : Cx) (target iter : Expr) (σ : Lo) (H : AH) (Q : List V → (AH → Prop) → AH → Prop) : Prop :=
  ∀ B s, StW C B σ H s → wpAny C.M C.A (eval iter C.env) (fun x s₁ => wpAny C.M C.A (pyIter x) (fun itv s₂ => ∃ it own rs Hc P H', itv = .ref it ∧ Iter C.G C.A target it own rs Hc P ∧ P 0 s₂.heap ∧
    (∀ b ∈ own, H' b = none ∧ B b = none ∧ b ≠ C.env.locals ∧ ∀ x, C.env.cells.lookup x ≠ some b) ∧ StW C B σ H' s₂ ∧ Q rs Hc H') Fls s₁) Fls s

theorem Ei.w {target iter} {Q : List V → (AH → Prop) → AH → Prop} (h : Ei C target iter σ H Q) : Eiw C target iter σ H Q := fun B s S => by
  have S0 : St C (Bmax H s.heap) σ H s := ⟨S.toSt.toH.max, S.toSt.frm, S.toSt.hl⟩
  refine wpF_mono (h _ s S0) (fun x s₁ h₁ => wpF_mono h₁ (fun itv s₂ z => ?_))
  obtain ⟨it, own, rs, Hc, P, H₁, rfl, It, p0, hf, S2, q⟩ := z
  have tk0 := S.toSt.toH.tup S2
  have S3 : StW C B σ H₁ s₂ := by
    refine S.st ⟨S2.less S.toSt.toH.le S.toSt.toH.top, S.toSt.frm.keep S.toSt.hl (fun x c e => S.toSt.hcell e) S2.keep tk0, ?_⟩
    obtain ⟨m, ⟨o, es, ep, ho, r⟩, hm⟩ := S.toSt.frm.ns
    cases q : H₁ C.env.locals with
    | none => rfl
    | some x => have := S2.apart _ _ q; rw [Bmax_some S.toSt.hl ho] at this; cases this
  have hfr : ∀ b ∈ own, B b = none ∧ b ≠ C.env.locals ∧ ∀ x, C.env.cells.lookup x ≠ some b := fun b hb => by
    have n := (hf b hb).2
    refine ⟨?_, fun q => ?_, fun x q => ?_⟩
    · cases z : B b with
      | none => rfl
      | some o => rw [S.toSt.toH.le _ _ z] at n; cases n
    · subst q
      obtain ⟨m, ⟨o, es, ep, ho, r⟩, hm⟩ := S.toSt.frm.ns
      rw [Bmax_some S.toSt.hl ho] at n; cases n
    · obtain ⟨v, ⟨o, ho, hd⟩, _⟩ := S.toSt.frm.cell x b q
      rw [Bmax_some (S.toSt.hcell q) ho] at n; cases n
  exact ⟨it, own, rs, Hc, P, H₁, rfl, It, p0, fun b hb => ⟨(hf b hb).1, hfr b hb⟩, S3, q⟩

/-- a for -/
noncomputable abbrev KFor (C : Cx) (target : Expr) (body : List Stmt) (σ : Lo) (Qn : Lo → AH → Prop) (Qr : V → AH → Prop) : List V → (AH → Prop) → AH → Prop := fun rs Hc H₁ => ∃ I : Nat → Lo → AH → Prop, I 0 σ H₁ ∧ (∀ i σ' H', I i σ' H' → Hc H') ∧
      (∀ i x σ' H', rs[i]? = some x → I i σ' H' → As C target x σ' H' (KRest C body (I (i + 1)) Qr)) ∧ (∀ σ' H', I rs.length σ' H' → Qn σ' H')
theorem Ex1.forW {target iter body pos} {Qn : Lo → AH → Prop} {Qr : V → AH → Prop}
    (h : Eiw C target iter σ H (KFor C target body σ Qn Qr))
    (hs : ∀ x, foldedSetIterable iter C.env x = pure x := by intro _; with_unfolding_all rfl) : Ex1 C (.For target iter body [] pos) σ H Qn Qr := fun B s S => by
  refine wpAny_For (wpAny_mono (h _ s S) (fun x s₁ h₁ => wpAny_mono h₁ (fun itv s₂ z => ?_) fun _ _ x => x.elim) fun _ _ x => x.elim) hs
  obtain ⟨it, own, rs, Hc, P, H₁, rfl, It, p0, hf, S3, I, i0, ihc, istep, iend⟩ := z
  have hfr : ∀ b ∈ own, B b = none ∧ b ≠ C.env.locals ∧ ∀ x, C.env.cells.lookup x ≠ some b := fun b hb => (hf b hb).2
  have key : codeAny C.M C.A (.forLoop target (.ref it) body [] C.env) (fun r s' => match r with | .ok f => PostS C B Qn Qr f s' | .error _ => False) s₂ := by
    refine codeAny_forLoop_any (fun k s => ∃ i σ' H', k = rs.length - i ∧ i ≤ rs.length ∧ StW C B σ' H' s ∧ P i s.heap ∧ (∀ b ∈ own, H' b = none) ∧ I i σ' H') ?_ rs.length ⟨0, σ, H₁, rfl, Nat.zero_le _, S3, p0, fun b hb => (hf b hb).1, i0⟩
    rintro k s ⟨i, σ', H', rfl, hi, S4, p, hO, ii⟩
    have hf' : ∀ b ∈ own, H' b = none ∧ B b = none := fun b hb => ⟨hO b hb, (hfr b hb).1⟩
    have lo := It.loose _ _ p
    refine wpF_mono (It.next B H' s i S4.toSt.toH p (ihc _ _ _ ii) hf' hi) (fun r s₁ hr => ?_)
    cases r with
    | none =>
      obtain ⟨e, S5, kx⟩ := hr
      refine wpAny_execs_nil ⟨σ', H', S4.kx (fun b hb => ⟨hO b hb, (hfr b hb).1, (hfr b hb).2.1, (hfr b hb).2.2⟩) S5 kx lo, ?_⟩
      subst e
      exact iend _ _ ii
    | some v =>
      refine wpF_mono hr (fun _ s₃ hz => ?_)
      obtain ⟨S5, kx, p', rr, hrr, hv⟩ := hz
      have S6 : StW C B σ' H' s₃ := S4.kx (fun b hb => ⟨hO b hb, (hfr b hb).1, (hfr b hb).2.1, (hfr b hb).2.2⟩) S5 kx lo
      refine wpF_mono (istep i rr σ' H' hrr ii _ s₃ v S6.max hv) (fun _ s₄ hz => ?_)
      obtain ⟨σ'', H'', S7, ex⟩ := hz
      refine wpF_mono (ex _ s₄ S7) (fun f s₅ x => ?_)
      have hlt : i < rs.length := (List.getElem?_eq_some_iff.mp hrr).1
      cases f with
      | next =>
        obtain ⟨σ3, H3, S8, i3⟩ := x
        have tk := S6.tupFr S8.toSt.toH
        have keepO : ∀ b ∈ own, ∀ o, s₃.heap.get? b = some o → Bfr C H' s₃.heap b = some o := fun b hb o e => Bfr_some (fun q => by
          rcases q with q | ⟨_, x, _, hx2⟩
          · exact (hfr b hb).2.1 q
          · exact (hfr b hb).2.2 x hx2) (hO b hb) e
        refine ⟨rs.length - (i + 1), by omega, i + 1, σ3, H3, rfl, hlt, S8.less S6.le S6.toSt.toH.top, It.frame _ _ _ p' (fun b hb o e => S8.toSt.toH.keep b o (keepO b hb o e)) tk, fun b hb => ?_, i3⟩
        obtain ⟨o, e, _⟩ := It.loose _ _ p' b hb
        cases q : H3 b with
        | none => rfl
        | some y => have := S8.toSt.toH.apart _ _ q; rw [keepO b hb o e] at this; cases this
      | ret v => obtain ⟨r, H3, v3, S8, q⟩ := x; exact ⟨r, H3, v3, S8.less S6.le S6.toSt.toH.top, q⟩
      | brk => exact x.elim
      | cont => exact x.elim
  exact codeAny_mono key fun r s' x => by cases r with | ok f => exact x | error e => exact x.elim

theorem Ex1.for_ {target iter body pos} {Qn : Lo → AH → Prop} {Qr : V → AH → Prop}
    (h : Ei C target iter σ H (KFor C target body σ Qn Qr))
    (hs : ∀ x, foldedSetIterable iter C.env x = pure x := by intro _; with_unfolding_all rfl) : Ex1 C (.For target iter body [] pos) σ H Qn Qr := Ex1.forW h.w hs
end
end Mine
namespace Mine
open PySem PySem.W PySem.Calls PyProof.Rows

/-! ## list comprehensions -/
noncomputable def closL (env : Env) (names : List (Str × NameKind)) (acc : List (Str × Addr)) : List (Str × Addr) := match names with
  | [] => acc
  | (n, k) :: r => closL env r (if k == .free then (n, (env.cells.lookup n).getD 0) :: acc else acc)
theorem closL_eq {env : Env} : ∀ (names : List (Str × NameKind)) (acc : List (Str × Addr)), (∀ x, (x, NameKind.free) ∈ names → ∃ c, env.cells.lookup x = some c) →
    (forIn names acc fun (x : Str × NameKind) (cs : List (Str × Addr)) => (if x.2 == .free then do let __do_lift ← cellOf env x.1; pure (ForInStep.yield ((x.1, __do_lift) :: cs)) else pure (ForInStep.yield cs) : Sem _)) = pure (closL env names acc)
  | [], acc, _ => by rw [List.forIn_nil]; rfl
  | (n, k) :: r, acc, h => by
    rw [List.forIn_cons]
    unfold closL
    have ih := fun acc => closL_eq r acc fun x hx => h x (List.mem_cons_of_mem _ hx)
    by_cases q : (k == NameKind.free) = true
    · have e : k = .free := by simpa using q
      subst e
      obtain ⟨c, hc⟩ := h n List.mem_cons_self
      simp only [beq_self_eq_true, if_true]
      have : cellOf env n = pure c := by unfold cellOf; rw [hc]
      rw [this, hc]
      exact ih _
    · simp only [q, Bool.false_eq_true, if_false]
      exact ih _
theorem closL_mem {env : Env} : ∀ (names : List (Str × NameKind)) (acc : List (Str × Addr)), (∀ x c, (x, c) ∈ acc → env.cells.lookup x = some c) → (∀ x, (x, NameKind.free) ∈ names → ∃ c, env.cells.lookup x = some c) →
    (∀ x c, (x, c) ∈ closL env names acc → env.cells.lookup x = some c) ∧ (∀ x, ((x, NameKind.free) ∈ names ∨ ∃ c, (x, c) ∈ acc) → ∃ c, (x, c) ∈ closL env names acc)
  | [], acc, ha, _ => ⟨ha, fun x h => by rcases h with h | h; · cases h
                                         · exact h⟩
  | (n, k) :: r, acc, ha, hn => by
    unfold closL
    have hn' : ∀ x, (x, NameKind.free) ∈ r → ∃ c, env.cells.lookup x = some c := fun x hx => hn x (List.mem_cons_of_mem _ hx)
    by_cases q : (k == NameKind.free) = true
    · have e : k = .free := by simpa using q
      subst e
      obtain ⟨c, hc⟩ := hn n List.mem_cons_self
      simp only [beq_self_eq_true, if_true]
      have ih := closL_mem r ((n, (env.cells.lookup n).getD 0) :: acc) (fun x d hx => by
        rcases List.mem_cons.mp hx with e | e
        · cases e; rw [hc]; rfl
        · exact ha x d e) hn'
      refine ⟨ih.1, fun x h => ih.2 x ?_⟩
      rcases h with h | ⟨d, h⟩
      · rcases List.mem_cons.mp h with e | e
        · cases e; exact .inr ⟨_, List.mem_cons_self⟩
        · exact .inl e
      · exact .inr ⟨d, List.mem_cons_of_mem _ h⟩
    · simp only [q, Bool.false_eq_true, if_false]
      have ih := closL_mem r acc ha hn'
      refine ⟨ih.1, fun x h => ih.2 x ?_⟩
      rcases h with h | h
      · rcases List.mem_cons.mp h with e | e
        · cases e; exact absurd rfl q
        · exact .inl e
      · exact .inr h

theorem lookup_of_mem {α : Type} : ∀ {l : List (Str × α)} {x : Str} {c : α}, (x, c) ∈ l → ∃ c', l.lookup x = some c' ∧ (x, c') ∈ l
  | (k, v) :: r, x, c, h => by
    rw [List.lookup_cons]
    cases q : x == k with
    | true => exact ⟨v, rfl, by rw [beq_iff_eq.mp q]; exact List.mem_cons_self⟩
    | false =>
      rcases List.mem_cons.mp h with e | e
      · cases e; simp at q
      · obtain ⟨c', a, b⟩ := lookup_of_mem e
        exact ⟨c', a, List.mem_cons_of_mem _ b⟩

theorem relabel_cell {scope : Scope} {env : Env} {x : Str} (hnc : ∀ y ∈ scope.names, y.2 ≠ .cell) (h : (relabel scope env).names.lookup x = some .cell) : (x, NameKind.free) ∈ scope.names ∧ env.kindOf x = some .cell := by
  have := mem_of_lookup h
  unfold relabel at this
  simp only [List.mem_map] at this
  obtain ⟨⟨n, k⟩, hm, e⟩ := this
  dsimp only at e
  split at e
  · rename_i q
    cases e
    simp only [Bool.and_eq_true, beq_iff_eq] at q
    obtain ⟨⟨q1, _⟩, q2⟩ := q
    subst q1
    exact ⟨hm, q2⟩
  · cases e; exact absurd rfl (hnc _ hm)

/-- what a comprehension asks of its scope -/
structure CompOk (C : Cx) (scope : Scope) : Prop where
  kind : scope.kind = .function
  nocell : ∀ y ∈ scope.names, y.2 ≠ .cell
  free : ∀ x, (x, NameKind.free) ∈ scope.names → C.env.kindOf x = some .cell
  names : ∀ x ∈ scope.names, x.2 = .local → scope.names.lookup x.1 = some .local

noncomputable abbrev Cx.comp (C : Cx) (scope : Scope) (ok : CompOk C scope) (L : Addr) : Cx where
  G := C.G
  A := C.A
  n := C.n
  rm := C.rm
  env := compEnvC scope (closL C.env scope.names []) L C.env
  wr := false
  kind := ok.kind
  globals := C.globals
  builtins := C.builtins
  inj := fun x y c h1 h2 => by
    have m := (closL_mem (env := C.env) scope.names [] (fun _ _ h => absurd h List.not_mem_nil) (fun x hx => C.cellAll x (ok.free x hx))).1
    exact C.inj _ _ _ (m _ _ (mem_of_lookup h1)) (m _ _ (mem_of_lookup h2))
  cellAll := fun x h => by
    obtain ⟨h1, h2⟩ := relabel_cell ok.nocell h
    obtain ⟨c, hc⟩ := (closL_mem (env := C.env) scope.names [] (fun _ _ h => absurd h List.not_mem_nil) (fun x hx => C.cellAll x (ok.free x hx))).2 x (.inl h1)
    obtain ⟨c', e, _⟩ := lookup_of_mem hc
    exact ⟨c', e⟩

noncomputable def compLo (C : Cx) (scope : Scope) (σ : Lo) : Lo := fun x => if (relabel scope C.env).names.lookup x = some .cell then σ x else none
theorem compLo_eq {C scope} {σ : Lo} {x r} (h : (relabel scope C.env).names.lookup x = some .cell) (e : σ x = some r) : compLo C scope σ x = some r := (if_pos h).trans e

/-- the tests of a comprehension -/
noncomputable def Ets (C : Cx) (ifs : List Expr) (σ : Lo) (H : AH) (Q : Bool → AH → Prop) : Prop := match ifs with
  | [] => Q true H
  | [c] => Et C c σ H Q
  | _ => False

theorem compLoop_any {prog : Program} {w : World} {A : Around} {R : Result → Shared → Prop} {s : Shared} {elt target iter : Expr} {ifs : List Expr} {scope : Scope} {pos : Pos} {it acc : Value} {env : Env} (I : Nat → Shared → Prop)
    (turn : ∀ n s, I n s → wpAny (model prog w) A (pyNext it) (fun r s₁ => match r with
      | none => R (.ok .next) s₁
      | some v => wpAny (model prog w) A (letOwnedTupleGo target it v) (fun _ s₁' => wpAny (model prog w) A (assign target env v) (fun _ s₂ =>
          wpAny (model prog w) A (forIn ifs true fun c r => if r = true then do let ok ← isTrue c env (eval c env); pure (ForInStep.yield ok) else pure (ForInStep.yield r)) (fun ok s₃ =>
            if ok = true then wpAny (model prog w) A (eval elt env) (fun x s₄ =>
              wpAny (model prog w) A (call (.builtin "list.append") [acc, x]) (fun _ s₅ => ∃ m, m < n ∧ I m s₅) Fls s₄) Fls s₃
            else ∃ m, m < n ∧ I m s₃) Fls s₂) Fls s₁') Fls s₁) Fls s)
    (n : Nat) (h : I n s) :
    codeAny (model prog w) A (.compLoop (.ListComp elt [⟨target, iter, ifs, 0⟩] scope pos) 0 it acc env) R s := by
  refine codeAny_loop rfl I (fun n s hI => ?_) n h
  show wpAny _ A ((compTurn (.ListComp elt [⟨target, iter, ifs, 0⟩] scope pos) 0 it acc env).onRaise (fun x => do noteFrame x env; theTreesLotGoes x)) _ _ s
  refine wpAny_noted ?_
  rw [compTurn_list]
  refine wpAny_bind (wpAny_standAt (wpAny_bind (wpAny_mono (turn n s hI) (fun r s₁ h₁ => ?_) fun _ _ h' => h'.elim)))
  cases r with
  | none => exact wpAny_pure h₁
  | some v =>
    refine wpAny_bind (wpF_mono h₁ (fun _ s₁' h₁' => ?_))
    refine wpAny_bind (wpF_mono h₁' (fun _ s₂ h₂ => wpAny_bind (wpF_mono h₂ (fun ok s₃ h₃ => ?_))))
    cases ok with
    | false => exact wpAny_pure ⟨rfl, h₃⟩
    | true =>
      exact wpAny_bind (wpAny_bind (wpF_mono h₃ (fun x s₄ h₄ => wpAny_bind (wpF_mono h₄ (fun _ s₅ h₅ => wpAny_pure (wpAny_pure ⟨rfl, h₅⟩))))))

theorem AH.put_put (H : AH) (a : Addr) (o o' : AO) : (AH.put (AH.put H a o) a o') = AH.put H a o' := by
  funext b
  by_cases q : b = a
  · subst q; rw [AH.put_self, AH.put_self]
  · rw [AH.put_ne _ _ q, AH.put_ne _ _ q, AH.put_ne _ _ q]
theorem Lo.puts_other : ∀ {bs : List (Str × V)} {σ : Lo} {x : Str}, (∀ b ∈ bs, b.1 ≠ x) → σ.puts bs x = σ x
  | [], _, _, _ => rfl
  | b :: bs, σ, x, h => by
    show (σ.put b.1 b.2).puts bs x = σ x
    rw [Lo.puts_other fun b hb => h b (List.mem_cons_of_mem _ hb)]
    exact Lo.put_ne _ _ (Ne.symm (h b List.mem_cons_self))

theorem compLo_cell {C scope} {σ : Lo} {x r} (e : compLo C scope σ x = some r) : (relabel scope C.env).names.lookup x = some .cell ∧ σ x = some r := by
  unfold compLo at e
  split at e
  · exact ⟨by assumption, e⟩
  · cases e
theorem Frm.back {C : Cx} {scope : Scope} {ok : CompOk C scope} {L : Addr} {σ : Lo} {bs : List (Str × V)} {h : Heap} (F : Frm (C.comp scope ok L) ((compLo C scope σ).puts bs) h) (hb : ∀ b ∈ bs, scope.names.lookup b.1 = some .local) : Frm (C.comp scope ok L) (compLo C scope σ) h := by
  have oth : ∀ x, (relabel scope C.env).names.lookup x = some .cell → (compLo C scope σ).puts bs x = compLo C scope σ x := fun x hx => Lo.puts_other fun b hbm q => by
    subst q
    have := lookup_relabel_local (env := C.env) (hb b hbm)
    have hx' : ((scope.names.map fun (n, k) => if (k == NameKind.free && C.env.scope.kind == .function && C.env.kindOf n == some .cell) then (n, NameKind.cell) else (n, k)).lookup b.1) = some .cell := hx
    rw [this] at hx'; cases hx'
  refine ⟨?_, fun x c e => ?_⟩
  · obtain ⟨m, n, hm⟩ := F.ns
    refine ⟨m, n, fun x r hk e => ?_⟩
    have := (compLo_cell e).1
    have hk' : (relabel scope C.env).names.lookup x = some .local := hk
    rw [this] at hk'; cases hk'
  · obtain ⟨o, i, hm⟩ := F.cell x c e
    refine ⟨o, i, fun r hk e' => ?_⟩
    have := (compLo_cell e').1
    exact hm r (.inl this) ((oth x this).trans e')

structure CTurn (C : Cx) (scope : Scope) (ok : CompOk C scope) (σ : Lo) (B : Addr → Option Obj) (own : List Addr) (P : Nat → Heap → Prop) (J : Nat → List V → AH → Prop) (rs : List V) (acc L' : Addr) (k : Nat) (s' : Shared) (i : Nat) (out : List V) (H' : AH) : Prop where
  e1 : k = rs.length - i
  e2 : i ≤ rs.length
  e3 : StH C.G B (AH.put H' acc (.list out)) s'
  e4 : H' acc = none
  e5 : H' L' = none
  e6 : Frm (C.comp scope ok L') (compLo C scope σ) s'.heap
  e7 : P i s'.heap
  e8 : ∀ b ∈ own, H' b = none
  e9 : J i out H'
noncomputable abbrev CInv (C : Cx) (scope : Scope) (ok : CompOk C scope) (σ : Lo) (B : Addr → Option Obj) (own : List Addr) (P : Nat → Heap → Prop) (J : Nat → List V → AH → Prop) (rs : List V) (acc L' : Addr) (k : Nat) (s' : Shared) : Prop :=
  ∃ i out H', CTurn C scope ok σ B own P J rs acc L' k s' i out H'
section
variable {C : Cx} {σ : Lo} {H : AH}
theorem comp_core {target iter elt : Expr} {ifs : List Expr} {scope : Scope} {pos cpos : Pos} (ok : CompOk C scope) {use : Option (Value → Sem Unit)} {Q : Value → Shared → Prop} {s : Shared} (S : St C (Bmax H s.heap) σ H s)
    {R : List V → AH → Prop}
    (h : Ei C target iter σ H fun rs Hc H₁ => ∃ J : Nat → List V → AH → Prop, J 0 [] H₁ ∧ (∀ i out H', J i out H' → Hc H' ∧ out.length ≤ 2 ^ 19) ∧
      (∀ L i x out H', rs[i]? = some x → J i out H' → ∃ bs, tgBinds target x = some bs ∧ (∀ b ∈ bs, scope.names.lookup b.1 = some .local) ∧ Ets (C.comp scope ok L) ifs ((compLo C scope σ).puts bs) H' fun b H'' =>
        (b = true → Ev (C.comp scope ok L) elt ((compLo C scope σ).puts bs) H'' fun r H3 => J (i + 1) (out ++ [r]) H3) ∧ (b = false → J (i + 1) out H'')) ∧
      ∀ out H', J rs.length out H' → R out H')
    (fin : ∀ (acc L' : Addr) s' m H' out, s'.heap.Ns L' m → StH C.G (Bmax H s.heap) (AH.put H' acc (.list out)) s' → H' acc = none → acc ≠ L' → AH.put H' acc (.list out) L' = none → Bmax H s.heap L' = none → R out H' →
      compPost C.M C.A Fls use Q (.ref acc) L' (.ok .next) s')
    (hs : ∀ x, foldedSetIterable iter C.env x = pure x := by intro _; with_unfolding_all rfl) :
    wpAny C.M C.A (comprehension (.ListComp elt [⟨target, iter, ifs, 0⟩] scope pos) scope C.env cpos (newList []) false (eval iter C.env) use) Q Fls s := by
  have hfr : ∀ x, (x, NameKind.free) ∈ scope.names → ∃ c, C.env.cells.lookup x = some c := fun x hx => C.cellAll x (ok.free x hx)
  have hclos : closureFor scope C.env = pure (closL C.env scope.names []) := by
    have := closL_eq (env := C.env) scope.names [] hfr
    unfold closureFor
    show (forIn scope.names [] _ >>= fun cs => pure cs) = _
    first
      | (rw [this]; rfl)
      | (rw [show (forIn scope.names ([] : List (Str × Addr)) _ : Sem (List (Str × Addr))) = _ from this]; rfl)
      | (simp only [bind_pure]; exact this)
  have cm := closL_mem (env := C.env) scope.names [] (fun _ _ h => absurd h List.not_mem_nil) hfr
  refine wpAny_comprehension_free rfl hs hclos ok.kind ok.names (wpF_mono (h _ s S) (fun x s₁ h₁ => wpF_mono h₁ (fun itv s₂ z => ?_)))
  obtain ⟨it, own, rs, Hc, P, H₁, rfl, It, p0, hf, S2, J, j0, jhc, jstep, jend⟩ := z
  refine wpAny_newObj_type (wpAny_newFunctionEnv ok.nocell (by intro y hy; simp at hy) (fun h₁ hns₁ hsb₁ => ?_) ok.kind)
  have ez : (s₂.heap.push { cls := .type "list", dict := none, data := .seq ([] : List Value).toArray }).objs.size = s₂.heap.objs.size + 1 := Heap.size_push ..
  have fr2 := S2.fresh
  have S3 := S2.new { cls := .type "list", dict := none, data := .seq ([] : List Value).toArray } (.list []) (.mkList (n := 0) (Heap.get?_push_size _ rfl) .nil (Nat.zero_le _))
  have fr3 := S3.fresh
  have S4 := S3.push { cls := .type (if (some C.env).isSome then "dict" else "frame"), data := .dict #[] }
  have S5 := (S4.over fr3.2 fr3.1 (Heap.get?_push_size _ rfl) (fun vs n e => by cases e) hsb₁).tok (s₂.toks + ([] : List (Str × Value)).length)
  dsimp only at S5 hns₁ fr3
  generalize hacc : s₂.heap.objs.size = acc at *
  generalize hL' : (s₂.heap.push { cls := .type "list", dict := none, data := .seq ([] : List Value).toArray }).objs.size = L' at *
  have hne : acc ≠ L' := by rw [ez]; exact (Nat.succ_ne_self _).symm
  have hHL : H₁ L' = none := by have := fr3.1; rwa [AH.put_ne _ _ hne.symm] at this
  have tk0 := S.toH.tup S5
  have F0 : Frm (C.comp scope ok L') (compLo C scope σ) h₁ := by
    refine ⟨⟨_, hns₁, fun x r hk e => ?_⟩, fun x c e => ?_⟩
    · have := (compLo_cell e).1
      have hk' : (relabel scope C.env).names.lookup x = some .local := hk
      rw [this] at hk'; cases hk'
    · have e1 := cm.1 x c (mem_of_lookup e)
      obtain ⟨o, ⟨ob, ho, hd⟩, hm⟩ := S.frm.cell x c e1
      refine ⟨o, ⟨ob, S5.keep _ _ (Bmax_some (S.hcell e1) ho), hd⟩, fun r hk e' => ?_⟩
      obtain ⟨e2, e3⟩ := compLo_cell e'
      obtain ⟨v, v1, v2⟩ := hm r (.inl (relabel_cell ok.nocell e2).2) e3
      exact ⟨v, v1, v2.mono tk0⟩
  have hOA : ∀ b ∈ own, b ≠ acc ∧ b ≠ L' := fun b hb => by
    obtain ⟨o, e, _⟩ := It.loose _ _ p0 b hb
    have lt := Heap.lt_size e
    exact ⟨by rw [← hacc]; exact Nat.ne_of_lt lt, by rw [ez, ← hacc]; exact Nat.ne_of_lt (Nat.lt_succ_of_lt lt)⟩
  have hBA : Bmax H s.heap acc = none := fr2.2
  have hBL : Bmax H s.heap L' = none := fr3.2
  have p1 : P 0 h₁ := It.frame _ _ _ p0 (fun b hb o e => by
    have := hsb₁.2 b (hOA b hb).2
    rw [this]; exact Heap.get?_push_of_some _ (Heap.get?_push_of_some _ e)) (fun a o vs n e c d => by
    have hlt := Heap.lt_size e
    rw [hsb₁.2 a (by rw [ez, ← hacc]; exact Nat.ne_of_lt (Nat.lt_succ_of_lt hlt))]; exact Heap.get?_push_of_some _ (Heap.get?_push_of_some _ e))
  have loop : ∀ s₅ : Shared, s₅ = { s₂ with heap := h₁, toks := s₂.toks + ([] : List (Str × Value)).length } →
      codeAny C.M C.A (.compLoop (.ListComp elt [⟨target, iter, ifs, 0⟩] scope pos) 0 (.ref it) (.ref acc) (C.comp scope ok L').env) (compPost C.M C.A Fls use Q (.ref acc) L') s₅ := by
    rintro s₅ rfl
    refine compLoop_any (CInv C scope ok σ (Bmax H s.heap) own P J rs acc L') ?_ rs.length
      ⟨0, [], H₁, rfl, Nat.zero_le _, S5, fr2.1, hHL, F0, p1, fun b hb => (hf b hb).1, j0⟩
    rintro k s₆ ⟨i, out, H', rfl, hi, S6, hA, hL, F, p, hO, j⟩
    have Sd := S6.drop hA
    have lo := It.loose _ _ p
    have hB : ∀ b ∈ own, Bmax H s.heap b = none := fun b hb => (hf b hb).2
    refine wpF_mono (It.next _ H' s₆ i Sd p (jhc _ _ _ j).1 (fun b hb => ⟨hO b hb, hB b hb⟩) hi) (fun r s₇ hr => ?_)
    have accO := S6.hr acc _ (AH.put_self _ _ _)
    have nA : acc ∉ own := fun q => (hOA _ q).1 rfl
    have nL : L' ∉ own := fun q => (hOA _ q).2 rfl
    cases r with
    | none =>
      obtain ⟨e, S7, kx⟩ := hr
      subst e
      obtain ⟨m, ⟨oL, es, ep, ho, hr⟩, _⟩ := F.ns
      refine fin acc L' s₇ m H' out ⟨oL, es, ep, kx _ _ nL ho, hr⟩ (S7.put hBA ?_) hA hne (by rw [AH.put_ne _ _ hne.symm]; exact hL) hBL (jend _ _ j)
      exact OR.mono accO (kx.tup lo) fun ob e => kx _ _ nA e
    | some v =>
      refine wpF_mono hr (fun _ s₈ hz => ?_)
      obtain ⟨S8, kx, p', rr, hrr, hv⟩ := hz
      have tk8 := kx.tup lo
      have hlt : i < rs.length := (List.getElem?_eq_some_iff.mp hrr).1
      obtain ⟨bs, hbs, hloc, ht⟩ := jstep L' i rr out H' hrr j
      have F8 : Frm (C.comp scope ok L') (compLo C scope σ) s₈.heap := by
        refine ⟨?_, fun x c e => ?_⟩
        · obtain ⟨m, ⟨oL, es, ep, ho, hr⟩, hm⟩ := F.ns
          exact ⟨m, ⟨oL, es, ep, kx _ _ nL ho, hr⟩, fun x r a b => by obtain ⟨v, h1, h2⟩ := hm x r a b; exact ⟨v, h1, h2.mono tk8⟩⟩
        · obtain ⟨o, ⟨ob, ho, hd⟩, hm⟩ := F.cell x c e
          refine ⟨o, ⟨ob, kx _ _ (fun q => ?_) ho, hd⟩, fun r a b => by obtain ⟨v, h1, h2⟩ := hm r a b; exact ⟨v, h1, h2.mono tk8⟩⟩
          have e1 := cm.1 x c (mem_of_lookup e)
          obtain ⟨o', ⟨ob', ho', hd'⟩, _⟩ := S.frm.cell x c e1
          have := hB c q
          rw [Bmax_some (S.hcell e1) ho'] at this; cases this
      have SW : StW (C.comp scope ok L') (Bmax H s.heap) (compLo C scope σ) H' s₈ := ⟨⟨S8, F8, hL⟩, hBL, fun hw => by cases hw⟩
      have accO8 : OR C.G.prog C.G.w s₈.heap acc (.list out) := OR.mono accO tk8 fun ob e => kx _ _ nA e
      have keepO : ∀ b, b ≠ L' → H' b = none → ∀ o, s₈.heap.get? b = some o → Bfr (C.comp scope ok L') H' s₈.heap b = some o := fun b hb hn o e => Bfr_some (fun q => by
        rcases q with q | ⟨hw, _⟩
        · exact hb q
        · cases hw) hn e
      -- after the turn
      have back : ∀ (H3 : AH) (s₉ : Shared), St (C.comp scope ok L') (Bfr (C.comp scope ok L') H' s₈.heap) ((compLo C scope σ).puts bs) H3 s₉ →
          StH C.G (Bmax H s.heap) H3 s₉ ∧ H3 acc = none ∧ H3 L' = none ∧ TupKeep s₈.heap s₉.heap ∧ OR C.G.prog C.G.w s₉.heap acc (.list out) ∧ P (i + 1) s₉.heap ∧ (∀ b ∈ own, H3 b = none) ∧ Frm (C.comp scope ok L') (compLo C scope σ) s₉.heap := fun H3 s₉ S9 => by
        have tk9 := SW.tupFr S9.toH
        have noneOf : ∀ b, b ≠ L' → H' b = none → (∃ o, s₈.heap.get? b = some o) → H3 b = none := fun b h1 h2 ⟨o, e⟩ => by
          cases q : H3 b with
          | none => rfl
          | some y => have := S9.toH.apart _ _ q; rw [keepO b h1 h2 o e] at this; cases this
        obtain ⟨ob, oe, _⟩ := accO8.obj
        refine ⟨S9.toH.less SW.le SW.toSt.toH.top, noneOf acc hne hA ⟨ob, oe⟩, S9.hl, tk9, OR.mono accO8 tk9 fun ob e => S9.toH.keep _ _ (keepO _ hne hA _ e),
          It.frame _ _ _ p' (fun b hb o e => S9.toH.keep b o (keepO b (hOA b hb).2 (hO b hb) o e)) tk9, fun b hb => noneOf b (hOA b hb).2 (hO b hb) ?_, S9.frm.back hloc⟩
        obtain ⟨o, e, _⟩ := It.loose _ _ p' b hb
        exact ⟨o, e⟩
      have asg := As.tg (C := C.comp scope ok L') (σ := compLo C scope σ) (H := H') (Q := fun σ' H'' => σ' = (compLo C scope σ).puts bs ∧ H'' = H') hbs (fun b hb => .inl (lookup_relabel_local (hloc b hb))) ⟨rfl, rfl⟩
      refine wpF_mono (asg _ s₈ v SW.max hv) (fun _ s₉ hz => ?_)
      obtain ⟨σ', H'', S9, e1, e2⟩ := hz
      subst e1 e2
      -- a turn that stores nothing
      have skip : ∀ (H3 : AH) (s₁₀ : Shared), St (C.comp scope ok L') (Bfr (C.comp scope ok L') H'' s₈.heap) ((compLo C scope σ).puts bs) H3 s₁₀ → J (i + 1) out H3 →
          ∃ m, m < rs.length - i ∧ CInv C scope ok σ (Bmax H s.heap) own P J rs acc L' m s₁₀ := fun H3 s₁₀ S10 j' => by
        obtain ⟨b1, b2, b3, b4, b5, b6, b7, b8⟩ := back H3 s₁₀ S10
        exact ⟨rs.length - (i + 1), by omega, i + 1, out, H3, rfl, hlt, b1.put hBA b5, b2, b3, b8, b6, b7, j'⟩
      -- a turn that stores
      have stores : ∀ (H3 : AH) (s₁₀ : Shared), St (C.comp scope ok L') (Bfr (C.comp scope ok L') H'' s₈.heap) ((compLo C scope σ).puts bs) H3 s₁₀ →
          Ev (C.comp scope ok L') elt ((compLo C scope σ).puts bs) H3 (fun r H4 => J (i + 1) (out ++ [r]) H4) →
          wpAny C.M C.A (eval elt (C.comp scope ok L').env) (fun x s₄ => wpAny C.M C.A (call (.builtin "list.append") [.ref acc, x]) (fun _ s₅ => ∃ m, m < rs.length - i ∧ CInv C scope ok σ (Bmax H s.heap) own P J rs acc L' m s₅) Fls s₄) Fls s₁₀ := fun H3 s₁₀ S10 ev => by
        refine ev.use S10 fun x s₁₁ r H4 vx S11 _ j' => ?_
        obtain ⟨b1, b2, b3, b4, b5, b6, b7, b8⟩ := back H4 s₁₁ S11
        have S12 := b1.put hBA b5
        have cl := Cl.append (G := C.G) (A := C.A) (H := AH.put H4 acc (.list out)) (a := acc) (l := out) (r := r) (Q := fun r' H5 => H5 = AH.put (AH.put H4 acc (.list out)) acc (.list (out ++ [r]))) (AH.put_self _ _ _) (by have := (jhc _ _ _ j).2; omega) rfl
        refine wpF_mono (cl (Bmax (AH.put H4 acc (.list out)) s₁₁.heap) s₁₁ [.ref acc, x] S12.max (.cons (.ref _) (.cons vx .nil))) (fun _ s₁₂ hz => ?_)
        obtain ⟨r', H5, _, S13, eH⟩ := hz
        subst eH
        rw [AH.put_put] at S13
        have tk := S12.tup S13
        have kb : ∀ b, b ≠ acc → H4 b = none → ∀ o, s₁₁.heap.get? b = some o → s₁₂.heap.get? b = some o := fun b h1 h2 o e => S13.keep b o (Bmax_some (by rw [AH.put_ne _ _ h1]; exact h2) e)
        refine ⟨rs.length - (i + 1), by omega, i + 1, out ++ [r], H4, rfl, hlt, S13.less S12.le S12.top, b2, b3, ?_, It.frame _ _ _ b6 (fun b hb o e => kb b (hOA b hb).1 (b7 b hb) o e) tk, b7, j'⟩
        refine ⟨?_, fun y c e => ?_⟩
        · obtain ⟨m, ⟨oL, es, ep, ho, hr⟩, hm⟩ := b8.ns
          exact ⟨m, ⟨oL, es, ep, kb _ hne.symm b3 _ ho, hr⟩, fun x r a b => by obtain ⟨v, h1, h2⟩ := hm x r a b; exact ⟨v, h1, h2.mono tk⟩⟩
        · obtain ⟨o, ⟨ob, ho, hd⟩, hm⟩ := b8.cell y c e
          have hc4 : H4 c = none := by
            cases q : H4 c with
            | none => rfl
            | some z => obtain ⟨ob', e1, _, e3⟩ := (b1.hr c z q).obj; rw [ho] at e1; cases e1; exact absurd hd (e3 _)
          have hca : c ≠ acc := fun q => by
            subst q; obtain ⟨ob', e1, _, e3⟩ := b5.obj; rw [ho] at e1; cases e1; exact absurd hd (e3 _)
          exact ⟨o, ⟨ob, kb _ hca hc4 _ ho, hd⟩, fun r a b => by obtain ⟨v, h1, h2⟩ := hm r a b; exact ⟨v, h1, h2.mono tk⟩⟩
      match ifs, ht with
      | [], ht =>
        refine wpAny_tests_nil ?_
        rw [if_pos rfl]
        exact stores _ _ S9.toSt (ht.1 rfl)
      | [c], ht =>
        refine wpAny_tests_one (ht.use S9.toSt fun b s₁₀ b' H3 e S10 _ hz => ?_)
        obtain ⟨q1, q2⟩ := hz
        subst e
        cases b with
        | true => rw [if_pos rfl]; exact stores _ _ S10 (q1 rfl)
        | false => rw [if_neg Bool.false_ne_true]; exact skip _ _ S10 (q2 rfl)
  exact codeAny_compStart_list (loop _ rfl) (wpAny_mono (It.self _ { s₂ with heap := h₁, toks := s₂.toks + ([] : List (Str × Value)).length } _ p1 (loop _ rfl)) (fun _ _ x => x) fun _ _ x => x.elim)
end
end Mine
namespace Mine
open PySem PySem.W PySem.Calls PyProof.Rows

section
variable {C : Cx} {σ : Lo} {H : AH}

/-- what a comprehension over something does -/
noncomputable abbrev KCo (C : Cx) (target elt : Expr) (ifs : List Expr) (scope : Scope) (ok : CompOk C scope) (σ : Lo) (R : List V → AH → Prop) : List V → (AH → Prop) → AH → Prop := fun rs Hc H₁ => ∃ J : Nat → List V → AH → Prop, J 0 [] H₁ ∧ (∀ i out H', J i out H' → Hc H' ∧ out.length ≤ 2 ^ 19) ∧
      (∀ L i x out H', rs[i]? = some x → J i out H' → ∃ bs, tgBinds target x = some bs ∧ (∀ b ∈ bs, scope.names.lookup b.1 = some .local) ∧ Ets (C.comp scope ok L) ifs ((compLo C scope σ).puts bs) H' fun b H'' =>
        (b = true → Ev (C.comp scope ok L) elt ((compLo C scope σ).puts bs) H'' fun r H3 => J (i + 1) (out ++ [r]) H3) ∧ (b = false → J (i + 1) out H'')) ∧
      ∀ out H', J rs.length out H' → R out H'
noncomputable abbrev Co (C : Cx) (target iter elt : Expr) (ifs : List Expr) (scope : Scope) (ok : CompOk C scope) (σ : Lo) (H : AH) (R : List V → AH → Prop) : Prop :=
  Ei C target iter σ H (KCo C target elt ifs scope ok σ R)

noncomputable abbrev KOut (Q : V → AH → Prop) : List V → AH → Prop := fun out H' => ∀ b, H' b = Option.none → Q (.ref b) (H'.put b (.list out))
theorem Ev.comp {target iter elt ifs scope pos} {Q : V → AH → Prop} (ok : CompOk C scope)
    (h : Co C target iter elt ifs scope ok σ H (KOut Q))
    (hs : ∀ x, foldedSetIterable iter C.env x = pure x := by intro _; with_unfolding_all rfl) : Ev C (.ListComp elt [⟨target, iter, ifs, 0⟩] scope pos) σ H Q := fun B s S => by
  rw [eval_ListComp]
  have S0 : St C (Bmax H s.heap) σ H s := ⟨S.toH.max, S.frm, S.hl⟩
  refine comp_core ok S0 h (fun acc L' s' m H' out n S' hA hne hL hBL r => ?_) hs
  refine ⟨m, n, fun h' SB => ?_⟩
  obtain ⟨o, es, ep, ho, hd, _⟩ := n
  have S2 := (S'.less S.toH.le S.toH.top).over (d := L') (by
    cases q : B L' with
    | none => rfl
    | some o => have := S.toH.le _ _ q; rw [hBL] at this; cases this) hL ho (fun vs n e => by rw [hd] at e; cases e) SB
  exact ⟨_, _, .ref _, S2, r _ hA⟩

noncomputable abbrev KOutN (σ : Lo) (x : Str) (Qn : Lo → AH → Prop) : List V → AH → Prop := fun out H' => ∀ b, H' b = Option.none → Qn (σ.put x (.ref b)) (H'.put b (.list out))
/-- x = [..] : stored before the comprehension's own names go -/
theorem Ex1.assignComp {x px target iter elt ifs scope pos spos} {Qn : Lo → AH → Prop} {Qr : V → AH → Prop} (ok : CompOk C scope) (o : Own C x)
    (h : Co C target iter elt ifs scope ok σ H (KOutN σ x Qn))
    (hsw : swapsWith (.ListComp elt [⟨target, iter, ifs, 0⟩] scope pos) (some (.Name x px)) spos.line C.env = pure true)
    (hs : ∀ x, foldedSetIterable iter C.env x = pure x := by intro _; with_unfolding_all rfl) : Ex1 C (.Assign [.Name x px] (.ListComp elt [⟨target, iter, ifs, 0⟩] scope pos) spos) σ H Qn Qr := fun B s S => by
  rw [exec_Assign_Name_used _ _ _ _ hsw]
  have S0 : St C (Bmax H s.heap) σ H s := ⟨S.toSt.toH.max, S.toSt.frm, S.toSt.hl⟩
  refine wpAny_bind (wpAny_standAt (wpAny_bind ?_))
  show wpAny _ _ (do let _ ← comprehension (.ListComp elt [⟨target, iter, ifs, 0⟩] scope pos) scope C.env _ (newList []) false (eval iter C.env) (some (PySem.assign (.Name x px) C.env))) _ _ s
  refine wpAny_bind (wpF_mono (comp_core (Q := fun _ s' => PostS C B Qn Qr .next s') ok S0 h (fun acc L' s' m H' out n S' hA hne hL hBL r => ?_) hs) (fun _ s' hq => wpAny_pure (wpAny_pure hq)))
  have tk := S.toSt.toH.tup S'
  have hl' : AH.put H' acc (.list out) C.env.locals = Option.none := by
    obtain ⟨m, ⟨o, es, ep, ho, r⟩, hm⟩ := S.toSt.frm.ns
    cases q : AH.put H' acc (.list out) C.env.locals with
    | none => rfl
    | some x => have := S'.apart _ _ q; rw [Bmax_some S.toSt.hl ho] at this; cases this
  have SW : StW C B σ (AH.put H' acc (.list out)) s' := S.st ⟨S'.less S.toSt.toH.le S.toSt.toH.top, S.toSt.frm.keep S.toSt.hl (fun x c e => S.toSt.hcell e) S'.keep tk, hl'⟩
  show wpAny _ _ (PySem.assign (.Name x px) C.env (.ref acc)) _ _ s'
  have hBL' : B L' = Option.none := by
    cases q : B L' with
    | none => rfl
    | some o => have := S.toSt.toH.le _ _ q; rw [hBL] at this; cases this
  -- the comprehension's own dict is none of the frame's places
  have hLl : L' ≠ C.env.locals := fun q => by
    subst q
    obtain ⟨m, ⟨o, es, ep, ho, r⟩, hm⟩ := S.toSt.frm.ns
    rw [Bmax_some S.toSt.hl ho] at hBL; cases hBL
  have hLc : ∀ y, C.env.cells.lookup y ≠ some L' := fun y q => by
    obtain ⟨v, ⟨o, ho, hd⟩, _⟩ := S.toSt.frm.cell y L' q
    rw [Bmax_some (S.toSt.hcell q) ho] at hBL; cases hBL
  obtain ⟨oL, es, ep, ho, hd, hk⟩ := n
  have bfr : Bfr C (AH.put H' acc (.list out)) s'.heap L' = some oL := Bfr_some (fun q => by
    rcases q with q | ⟨_, y, _, q⟩
    · exact hLl q
    · exact hLc y q) hL ho
  refine wpAny_assign_Name (SW.max.put (.ref acc) o fun s'' S'' _ => ?_)
  have ho2 := S''.toSt.toH.keep _ _ bfr
  refine ⟨m, ⟨oL, es, ep, ho2, hd, hk⟩, fun h3 SB => ?_⟩
  have S3 := S''.less SW.le SW.toSt.toH.top
  have S4 := S3.toSt.toH.over (d := L') hBL' hL ho2 (fun vs n e => by rw [hd] at e; cases e) SB
  have tk3 : TupKeep s''.heap h3 := .sameBut SB ho2 fun vs n e => by rw [hd] at e; cases e
  refine ⟨σ.put x (.ref acc), _, S3.st ⟨S4, ⟨?_, fun y c e => ?_⟩, hl'⟩, r _ hA⟩
  · obtain ⟨m, ⟨o, es, ep, ho, r⟩, hm⟩ := S3.toSt.frm.ns
    exact ⟨m, ⟨o, es, ep, (SB.2 _ hLl.symm).trans ho, r⟩, fun x r a b => by obtain ⟨v, h1, h2⟩ := hm x r a b; exact ⟨v, h1, h2.mono tk3⟩⟩
  · obtain ⟨v, ⟨o, ho, hd⟩, hm⟩ := S3.toSt.frm.cell y c e
    exact ⟨v, ⟨o, (SB.2 _ fun q => hLc y (q ▸ e)).trans ho, hd⟩, fun r a b => by obtain ⟨v, h1, h2⟩ := hm r a b; exact ⟨v, h1, h2.mono tk3⟩⟩

/-- a, b, .. = value -/
theorem Ex1.assignT {elts k tpos value pos} {Qn : Lo → AH → Prop} {Qr : V → AH → Prop}
    (h : Ev C value σ H fun r H' => ∃ rs bs, r = .tup rs ∧ zipNames elts rs = some bs ∧ (∀ b ∈ bs, Own C b.1) ∧ Qn (σ.puts bs) H')
    (hs : swapsWithSole [.Tuple elts k tpos] value pos.line C.env = pure false := by with_unfolding_all rfl)
    (hw : swappedStores [.Tuple elts k tpos] value C.env = pure none := by with_unfolding_all rfl) : Ex1 C (.Assign [.Tuple elts k tpos] value pos) σ H Qn Qr := fun B s S => by
  refine Assign_Tuple (h.use S.toSt fun u s₁ r H₁ v1 S1 _ hz => ?_) hs hw
  obtain ⟨rs, bs, e, hz, o, q⟩ := hz
  subst e
  exact wpF_mono (As.tg (C := C) (target := .Tuple elts k tpos) (r := .tup rs) (bs := bs) (Q := fun σ' H' => Qn σ' H') hz o q B s₁ u (S.st S1) v1) fun _ s' x => x

theorem storesRev : ∀ (names : List Str) (rs : List V) {σ : Lo} {B s} {vs : List Value}, (∀ n ∈ names, Own C n) → names.length = rs.length → StW C B σ H s → VRs s.heap vs rs →
    wpAny C.M C.A (assignInOrder (names.map fun n => bindName C.env n) vs) (fun _ s' => StW C B (σ.puts (names.zip rs)) H s') Fls s
  | [], [], σ, B, s, vs, o, _, S, R => by cases R; exact assignInOrder_nil S
  | n :: ns, r :: rs, σ, B, s, vs, o, hl, S, R => by
    cases R with | cons a R =>
    refine assignInOrder_cons (bindName_ (S.put a (o _ List.mem_cons_self) fun s' S' tk => ?_))
    exact storesRev ns rs (fun m hm => o m (List.mem_cons_of_mem _ hm)) (by simpa using hl) S' (R.mono tk)
  | [], _ :: _, _, _, _, _, _, hl, _, _ => by simp at hl
  | _ :: _, [], _, _, _, _, _, hl, _, _ => by simp at hl

/-- a, b = x, y : stored from behind -/
noncomputable abbrev KTS (C : Cx) (names : List Str) (σ : Lo) (Qn : Lo → AH → Prop) : V → AH → Prop := fun r H' => ∃ rs, r = .tup rs ∧ rs.length = names.length ∧ (∀ n ∈ names, Own C n) ∧ Qn (σ.puts (names.reverse.zip rs.reverse)) H'
theorem Ex1.assignTS {elts k tpos value pos names} {Qn : Lo → AH → Prop} {Qr : V → AH → Prop}
    (h : Ev C value σ H (KTS C names σ Qn))
    (hs : swapsWithSole [.Tuple elts k tpos] value pos.line C.env = pure false := by with_unfolding_all rfl)
    (hw : swappedStores [.Tuple elts k tpos] value C.env = pure (some names) := by with_unfolding_all rfl) : Ex1 C (.Assign [.Tuple elts k tpos] value pos) σ H Qn Qr := fun B s S => by
  refine Assign_Tuple_swapped (names := names) (h.use S.toSt fun u s₁ r H₁ v1 S1 _ hz => ?_) hs hw
  obtain ⟨rs, e, hl, o, q⟩ := hz
  subst e
  cases v1 with | tup e c d vr =>
  have hz := vr.length
  rw [Array.length_toList] at hz
  have ht : s₁.heap.IsTuple _ _ := ⟨_, e, c, _, d⟩
  rw [← hl, ← hz]
  refine wpAny_unpackItems_tuple C.rm.handled ht fun h' x => ?_
  have kk : ∀ b o, s₁.heap.get? b = some o → h'.get? b = some o := fun b o e => x b o (Nat.ne_of_lt (Heap.lt_size e)) e
  have SW := (S.st S1).ext (tk := s₁.toks) kk
  refine wpF_mono (storesRev names.reverse rs.reverse (fun n hn => o n (List.mem_reverse.mp hn)) (by simp [hl]) SW ((vr.mono (.of_keep kk)).reverse)) (fun _ s' S' => ⟨_, _, S', q⟩)
end
end Mine
namespace Mine
open PySem PySem.W PySem.Calls PyProof.Rows

section
variable {G : Gl} {A : Around} {H : AH} {Q : V → AH → Prop}
noncomputable def V.isN : V → Bool
  | .none => true
  | _ => false
theorem Do.isNone {r : V} (hp : r.plain = true) (h : Q (.bool r.isN) H) : Do G A [r, .none] H (cmp .Is) Q := .two fun B s u v S x y => by
  obtain rfl := y.n
  refine is_none_gen ?_
  have : (u == Value.none) = r.isN := by
    cases x <;> first | rfl | cases hp
  rw [this]
  exact PostV.mk' S (.bool _) h

/-- C.f, f a static method -/
theorem Gm.static {C f p : Addr} {name : Str} {rest : List Value} {mc : Value} (hg : specialIn G.K (.ref C) "__getattribute__" = some (some (.builtin "type.__getattribute__"))) (hr : readsIn G.K C mc = true)
    (e : findCls G.K (.ref C) mc name = some (.get (.builtin "staticmethod.__get__") (.ref p) .none (.ref C))) (hp : recIn G.K p "staticmethod" = some (.ref f :: rest)) :
    Gm G A (.lit (.ref C)) name H (.ref f) [] H := fun B s ov pl S v => by
  cases v
  exact method_cls S.X hg (cls_bind S.X hr e (wpAny_call (sm_get (s := { s with toks := s.toks + 1 }) S.X hp (handed_on rfl ⟨rfl, .nil, S.tok _⟩))))

/-! ## sorted -/
theorem collect_dict {B s d} {kvs : List (Int × V)} {Q' : List Value → Shared → Prop} (rm : A.handled = Option.none) (S : StH G B H s) (hd : H d = some (.zd kvs))
    (h : ∀ vs s', StH G B H s' → VRs s'.heap vs (kvs.map fun p => .int p.1) → Q' vs s') : wpAny G.M A (collect (.ref d)) Q' Fls s := by
  obtain ⟨ks, D, kr, z⟩ := S.hr _ _ hd
  obtain ⟨ep, Da⟩ := D.dictAt
  have hl : ks.length = kvs.length := kr.len
  have hk0 := kr.keys
  unfold collect
  refine wpAny_bind (wpAny_runValue (codeAny_builtin F.entry_proto_collect ?_))
  rw [Around.under_plainId F.plain_proto_collect _]
  show wpAny _ A.in1 (newList [] >>= fun l => again (.builtin "list.__iadd__" ⟨[l, .ref d], []⟩)) _ _ s
  refine wpAny_bind (wpAny_newObj_type ?_)
  refine wpAny_pure ⟨plainId_quiet F.plain_list_iadd _, codeAny_builtin F.entry_list_iadd ?_⟩
  rw [Around.under_plainId F.plain_list_iadd _]
  have hds : d < s.heap.objs.size := by obtain ⟨o, es, ep, ho, _⟩ := D; exact Heap.lt_size ho
  have S1 := S.push { cls := .type "list", data := .seq ([] : List Value).toArray }
  obtain ⟨ks1, D1, kr1, z1⟩ := S1.hr _ _ hd
  have hT1 : Shared.TypeIs { s with heap := s.heap.push { cls := .type "list", data := .seq ([] : List Value).toArray } } (.ref d) "dict" := D1.typeIs
  have hSd : s.heap.objs.size ≠ d := Nat.ne_of_gt hds
  have h1 : Builtin.List.listSameRef (.ref s.heap.objs.size) (.ref d) = false := by simp [Builtin.List.listSameRef, hSd]
  show wpAny _ A.in1 (Builtin.List.listExtendWith (.ref s.heap.objs.size) (.ref d) (.ref s.heap.objs.size)) _ _ _
  unfold Builtin.List.listExtendWith
  refine wpAny_bind (wpAny_typeOf hT1 ?_)
  rw [if_neg (by rw [h1]; decide)]
  have Da1 : (s.heap.push { cls := .type "list", data := .seq ([] : List Value).toArray }).DictAt (PySem.intKind G.prog G.w) d ks ep := Da.push _
  refine wpAny_bind (wpAny_pyIter_dict (S.notMods hd) Da1 ?_)
  refine wpAny_bind (wpAny_holding ?_)
  have hT2 : Shared.TypeIs { s with heap := (s.heap.push { cls := .type "list", data := .seq ([] : List Value).toArray }).push { cls := .type "dict_keyiterator", data := .fields #[.ref d, .int 0 0, .int ks.length 0, .int ep 0] } } (.ref d) "dict" := (Da1.push _).dictOf.typeIs
  unfold Builtin.List.listLengthHint
  refine wpAny_bind (wpAny_specialOf hT2 F.slot_dict_len.lookup ?_)
  (generalize hid : ("dict.__len__" : String) = id0; (fail_if_success (clear hid id0)); wp_delta; rw [show splitId id0 = some ("dict", "__len__") from by subst hid; decide +kernel]; subst hid)
  refine wpAny_bind (wpAny_isInstance (b := true) hT2 (by rw [isSubtype_type]; kernel_rfl) ?_)
  rw [if_neg (by decide)]
  refine (show wpAny G.M A.in1 (typeOf (.ref d) >>= _) _ _ _ from ?_)
  refine wpAny_bind (wpAny_typeOf hT2 ?_)
  refine wpAny_pure ?_
  dsimp only
  rw [if_pos (by decide)]
  have e0 : ((s.heap.push (listOf #[] 0)).push { cls := .type "dict_keyiterator", data := .fields #[.ref d, .int 0 0, .int ks.length 0, .int ep 0] }).get? s.heap.objs.size = some (listOf #[] 0) := Heap.get?_push_of_some _ (Heap.get?_push_size _ rfl)
  obtain ⟨c1, e1⟩ := upd_list (s := { s with heap := ((s.heap.push (listOf #[] 0)).push { cls := .type "dict_keyiterator", data := .fields #[.ref d, .int 0 0, .int ks.length 0, .int ep 0] }) }) e0 (·.push .none)
  dsimp only at e1
  obtain ⟨c2, e2⟩ := upd_list (s := { s with heap := (((s.heap.push (listOf #[] 0)).push { cls := .type "dict_keyiterator", data := .fields #[.ref d, .int 0 0, .int ks.length 0, .int ep 0] }).update s.heap.objs.size (Obj.mapSeq (·.push .none))) }) e1 (·.pop)
  dsimp only at e2
  have hI : (s.heap.push (listOf #[] 0)).objs.size = s.heap.objs.size + 1 := Heap.size_push ..
  refine wpAny_bind (wpAny_rule (wpAny_bind ?_))
  unfold Builtin.List.listTouch
  refine wpAny_bind (listUpdate_at e0 rfl ?_ (Nat.zero_le _) (by simp))
  refine listUpdate_at e1 rfl ?_ (by rw [sizeLine_eq]; simp) (by simp)
  have SB := (Heap.SameBut.update ((s.heap.push (listOf #[] 0)).push { cls := .type "dict_keyiterator", data := .fields #[.ref d, .int 0 0, .int ks.length 0, .int ep 0] }) s.heap.objs.size (Obj.mapSeq (·.push .none))).trans (Heap.SameBut.update _ s.heap.objs.size (Obj.mapSeq (·.pop)))
  generalize hh4 : Heap.update (Heap.update ((s.heap.push (listOf #[] 0)).push { cls := .type "dict_keyiterator", data := .fields #[.ref d, .int 0 0, .int ks.length 0, .int ep 0] }) s.heap.objs.size (Obj.mapSeq (·.push .none))) s.heap.objs.size (Obj.mapSeq (·.pop)) = h4 at e2 SB
  have iter4 : h4.IsKeyIter (s.heap.objs.size + 1) d 0 ks.length ep := by
    refine ⟨{ cls := .type "dict_keyiterator", data := .fields #[.ref d, .int 0 0, .int ks.length 0, .int ep 0] }, (SB.2 _ (Nat.succ_ne_self _)).trans ?_, rfl, rfl⟩
    have := Heap.get?_push_size (s.heap.push (listOf #[] 0)) (o := { cls := .type "dict_keyiterator", data := .fields #[.ref d, .int 0 0, .int ks.length 0, .int ep 0] }) rfl
    rw [hI] at this; exact this
  have dict4 : h4.DictAt (PySem.intKind G.prog G.w) d ks ep := (Da1.push _).at' fun o e => (SB.2 _ hSd.symm).trans e
  have W := (Walks.dictKeys (prog := G.prog) (w := G.w) (knd := PySem.intKind G.prog G.w) (A := A.in1) rm (s.heap.objs.size + 1) d (Nat.ne_of_lt (Nat.lt_succ_of_lt hds)) ks ep).toS
  show wpAny _ _ (again _) _ _ _
  refine wpAny_pure ⟨plainId_quiet F.plain_extend_loop _, ?_⟩
  have e2' : h4.get? s.heap.objs.size = some { cls := .type "list", dict := none, data := .seq #[] c2, slots := #[] } := e2
  dsimp only
  rw [hI]
  refine codeAny_extend_loopS W (by rw [sizeLine_eq]; omega) _ (by simp; exact hSd) _ ks.length 0 _ _ _ rfl (Nat.zero_le _) ⟨iter4, dict4⟩ e2' (ItemsOf.nil _) fun s' acc' c' hm hS' hacc => ?_
  refine wpAny_bind (wpAny_load hS' (wpAny_pure ?_))
  have keep : ∀ b o, s.heap.get? b = some o → s'.heap.get? b = some o := fun b o e => by
    have lt := Heap.lt_size e
    exact hm.heap b o (by simp; exact ⟨Nat.ne_of_lt lt, Nat.ne_of_lt (Nat.lt_succ_of_lt lt)⟩) ((SB.2 b (Nat.ne_of_lt lt)).trans (Heap.get?_push_of_some _ (Heap.get?_push_of_some _ e)))
  refine h _ s' ⟨⟨hm.os.trans S.os.1, hm.drawn.trans S.os.2⟩, hm.gens.trans S.gens, S.top, fun b o e => keep _ _ (S.keep b o e), fun a o e => OR.mono (S.hr a o e) (.of_keep keep) (fun ob e => keep _ _ e), S.apart⟩ ?_
  obtain ⟨hz, hv⟩ := hacc
  have : ∀ (l : List Value) (ns : List Int), l.length = ns.length → (∀ (j : Nat) (v : Value), l[j]? = some v → ∃ k : Int, ns[j]? = some k ∧ ∃ t, v = Value.int k t) → VRs s'.heap l (ns.map V.int) := by
    intro l
    induction l with
    | nil => intro ns hl _; cases ns with
      | nil => exact .nil
      | cons _ _ => simp at hl
    | cons v t ih => intro ns hl hj; cases ns with
      | nil => simp at hl
      | cons k ns =>
        obtain ⟨k', e, t', e'⟩ := hj 0 v rfl
        cases e; subst e'
        exact .cons (.int _ _) (ih ns (by simpa using hl) fun j v' e => by simpa using hj (j + 1) v' (by simpa using e))
  have e3 : kvs.map (fun p => V.int p.1) = (kvs.map (·.1)).map V.int := by simp
  rw [e3, ← hk0]
  refine this _ _ (by simp [hz]) fun j v e => ?_
  obtain ⟨k, x, e4, e5⟩ := hv j v (by rw [← Array.getElem?_toList]; exact e)
  obtain ⟨t, rfl⟩ := Value.isInt_shape e5
  exact ⟨k, by simp [e4], t, rfl⟩

theorem ints_are {h : Heap} {vs : List Value} {ns : List Int} (x : VRs h vs (ns.map .int)) : IntsAre vs ns := by
  induction ns generalizing vs with
  | nil => obtain rfl := VRs.n x; exact .nil
  | cons n t ih => obtain ⟨_, _, rfl, a, b⟩ := VRs.c x; obtain ⟨_, rfl⟩ := a.i; exact .cons _ _ (ih b)
theorem of_ints {h : Heap} : ∀ {vs : List Value} {ns : List Int}, IntsAre vs ns → VRs h vs (ns.map .int)
  | _, _, .nil => .nil
  | _, _, .cons n t b => .cons (.int n t) (of_ints b)

/-- sorted(d), d with int keys -/
theorem Cl.sortedZ {d} {kvs : List (Int × V)} {n : Nat} (rm : Rm A n) (hd : H d = some (.zd kvs)) (hz : kvs.length < 64)
    (h : ∀ (a : Addr) (ns : List Int), H a = Option.none → ns.Perm (kvs.map (·.1)) → ns.Pairwise (· ≤ ·) → Q (.ref a) (AH.put H a (.list (ns.map .int)))) : Cl G A (.builtin "sorted") [.ref d] H Q := fun B s vs S R => by
  obtain ⟨u, rfl, x⟩ := R.one
  obtain rfl := x.r
  refine Calls.call_function_entry kind_sorted plain_sorted entry_sorted (args_sorted1 _) ?_
  unfold Builtin.«sorted»
  refine wpAny_bind (m := checkCount "sorted" 1 1 _) (wpAny_pure ?_)
  refine wpAny_bind (collect_dict (A := A.in1) rm.handled S hd fun vs s' S' vr => ?_)
  have e3 : kvs.map (fun p => V.int p.1) = (kvs.map (·.1)).map V.int := by simp
  rw [e3] at vr
  have hI := ints_are vr
  have hlen : vs.length < 64 := by have := vr.length; simp at this; omega
  refine wpAny_bind (wpAny_newList ?_ (by rw [sizeLine_eq]; omega))
  have hoL : (s'.heap.push (seqObj "list" vs.toArray 0)).get? s'.heap.objs.size = some (seqObj "list" vs.toArray 0) := Heap.get?_push_size _ rfl
  refine wpAny_bind (wpAny_holding (wpAny_call_entry (s := { s' with heap := s'.heap.push (seqObj "list" vs.toArray 0) }) slot_list_sort ⟨_, hoL, rfl⟩ entry_list_sort (list_sort_tree hoL hI hlen fun out ns' a1 a2 a3 => ⟨_, rfl, ?_⟩) (args_list_sort _)))
  obtain ⟨e, he⟩ := sortedHeap_at (vs := vs) (out := out) hoL
  have keep : ∀ b o, s'.heap.get? b = some o → (sortedHeap (s'.heap.push (seqObj "list" vs.toArray 0)) s'.heap.objs.size vs out).get? b = some o := fun b o q => by
    have lt := Heap.lt_size q
    rw [sortedHeap_old (Nat.ne_of_lt lt) (by rw [size_push']; exact Nat.lt_succ_of_lt lt)]
    exact Heap.get?_push_of_some _ q
  have fr := S'.fresh
  have S2 := (S'.ext (tk := s'.toks) keep).put (a := s'.heap.objs.size) (o := .list (ns'.map .int)) fr.2 ⟨out, e, he, of_ints a1, by have := a2.length_eq; simp at this ⊢; omega⟩
  exact wpAny_pure ⟨_, rfl, _, _, .ref _, S2, h _ _ fr.1 a2 a3⟩
end

noncomputable abbrev pv (p : Int × Int) : V := .tup [.int p.1, .int p.2]
theorem perm_lift {α β : Type} (f : α → β) : ∀ {l1 m : List β}, l1.Perm m → ∀ l2 : List α, m = l2.map f → ∃ l3 : List α, l3.Perm l2 ∧ l3.map f = l1 := by
  intro l1 m p
  induction p with
  | nil => intro l2 e; exact ⟨l2, .refl _, e.symm⟩
  | cons x _ ih =>
    intro l2 e
    cases l2 with
    | nil => cases e
    | cons y t =>
      simp only [List.map_cons, List.cons.injEq] at e
      obtain ⟨l3, p3, e3⟩ := ih t e.2
      exact ⟨y :: l3, p3.cons y, by simp [e3, e.1]⟩
  | swap x y l =>
    intro l2 e
    match l2, e with
    | a :: b :: t, e =>
      simp only [List.map_cons, List.cons.injEq] at e
      exact ⟨b :: a :: t, .swap a b t, by simp [e.1, e.2.1, e.2.2]⟩
    | [_], e => simp at e
    | [], e => simp at e
  | trans _ _ ih1 ih2 =>
    intro l2 e
    obtain ⟨l3, p3, e3⟩ := ih2 l2 e
    obtain ⟨l4, p4, e4⟩ := ih1 l3 e3.symm
    exact ⟨l4, p4.trans p3, e4⟩

/-- all objects but one -/
noncomputable def allBut (h : Heap) (L : Addr) : List (Addr × Obj) := ((List.range h.objs.size).filter (· ≠ L)).filterMap fun a => (h.get? a).map (a, ·)
theorem mem_allBut {h : Heap} {L : Addr} {p : Addr × Obj} : p ∈ allBut h L ↔ p.1 ≠ L ∧ h.get? p.1 = some p.2 := by
  unfold allBut
  simp only [List.mem_filterMap, List.mem_filter, List.mem_range, Option.map_eq_some_iff, decide_eq_true_eq]
  constructor
  · rintro ⟨a, ⟨h1, h2⟩, o, e, rfl⟩; exact ⟨h2, e⟩
  · rintro ⟨h1, h2⟩; exact ⟨p.1, ⟨Heap.lt_size h2, h1⟩, p.2, h2, rfl⟩
end Mine
namespace Mine
open PySem PySem.W PySem.Calls PyProof.Rows

theorem Rm.in1 {A : Around} {n : Nat} (R : Rm A (n + 1)) : Rm A.in1 n := ⟨by have := R.depth; show A.depth + n < 1000; omega, by have := R.units; show A.units + 1 + 10 * n < 9900; omega, R.handled, R.guards, R.frames⟩

theorem zip_keys : ∀ (l : List Value) (ps : List (Int × Int)), (ps.map (·.1)).zip l = (l.zip ps).map (fun t => (t.2.1, t.1))
  | [], ps => by simp
  | _ :: _, [] => by simp
  | v :: l, p :: ps => by simp [zip_keys l ps]
theorem zip_vr {h : Heap} : ∀ (l : List Value) (ps : List (Int × Int)), VRs h l (ps.map pv) → ∀ t ∈ l.zip ps, VR h t.1 (pv t.2)
  | [], _, _ => by simp
  | _ :: _, [], _ => by simp
  | v :: l, p :: ps, .cons a b => by
    intro x hx
    simp only [List.zip_cons_cons, List.mem_cons] at hx
    rcases hx with rfl | hx
    · exact a
    · exact zip_vr l ps b x hx
section
variable {C : Cx} {σ : Lo} {H : AH} {target : Expr}
/-- sorted(pairs, key=f), f gives the first -/
theorem Eiw.sorted {p pos e fe kp} {f : Addr} {n : Nat} {Q : List V → (AH → Prop) → AH → Prop} (rm : Rm C.A (n + 3))
    (hf : Ev C (.Name "sorted" p) σ H fun r H' => r = .lit (.builtin "sorted") ∧ Ev C e σ H' fun r H₁ => ∃ a ps, r = .ref a ∧ H₁ a = some (.list (ps.map pv)) ∧ ps.length < 64 ∧ Ev C fe σ H₁ fun r H₂ => r = .lit (.ref f) ∧ H₂ = H₁ ∧
      ∀ (b : Addr) (ps' : List (Int × Int)), H₁ b = none → ps'.Perm ps → (ps'.Pairwise fun x y => x.1 ≤ y.1) → Q (ps'.map pv) (fun H => H b = some (.list (ps'.map pv))) (AH.put H₁ b (.list (ps'.map pv))))
    (key : ∀ A (x : Int × Int), Rm A (n + 1) → Cl C.G A (.ref f) [pv x] (fun _ => none) fun r H' => r = .int x.1 ∧ H' = fun _ => none)
    (he : starEach [e] C.env = (false, eval e C.env) :: starEach [] C.env := by with_unfolding_all rfl) (hst : ((backTo pos (starEach [e] C.env)).any (·.1) || (backToKw pos (keywordEach [⟨some "key", fe, kp⟩] C.env)).any (·.1.isNone)) = false := by with_unfolding_all rfl) :
    Eiw C target (.Call (.Name "sorted" p) [e] [⟨some "key", fe, kp⟩] pos) σ H Q := fun B s S => by
  refine wpAny_Call_Name_kw (hf.use S.toSt fun u s₁ r H' v1 S1 _ hz => ?_)
  obtain ⟨er, h1⟩ := hz
  subst er; obtain rfl := v1.l
  refine callWith_of (P := fun _ => True) hst (fun h _ => ⟨.machine, .inr (.inl rfl), by first | exact Looks.now | exact Looks.of_pure rfl⟩) (evalArgs_kw2 (by rfl) ?_ he)
  rw [he]
  refine spliced_cons (h1.use S1 fun u s₂ r H₁ v1 S2 _ hz => spliced_nil ?_)
  obtain ⟨a, ps, er, ha, h64, h2⟩ := hz
  subst er; obtain rfl := v1.r
  refine kwAll_cons (h2.use S2 fun u s₃ r H₂ v2 S3 t3 hz => kwAll_nil ⟨trivial, ?_⟩)
  obtain ⟨er, eH, q⟩ := hz
  subst er eH; obtain rfl := v2.l
  show wpAny _ _ (call (.builtin "sorted") [.ref a] [(Str.ofString "key", .ref f)]) _ _ _
  have SW := S.st S3
  obtain ⟨vs, c, e1, il, vr, z, z2⟩ := OR.isList (S3.toH.hr _ _ ha)
  obtain ⟨m, ns, hm⟩ := S3.frm.ns
  have F0 : Fr { (default : Heap) with objs := #[] } C.env.locals s₃.heap m := ⟨ns, fun b o e => by simp [Heap.get?] at e, Nat.zero_le _⟩
  have gn : ∀ b, Heap.get? { (default : Heap) with objs := #[] } b = none := fun b => by simp [Heap.get?]
  have N0 : News { (default : Heap) with objs := #[] } C.env.locals s₃.heap (allBut s₃.heap C.env.locals) := fun p hp => ⟨(mem_allBut.mp hp).2, (mem_allBut.mp hp).1, gn _⟩
  have hlen : vs.toList.length = ps.length := by have := vr.length; simpa using this
  refine ksk_sorted (kz := ps.map (·.1)) (b := false) F0 N0 (vs := vs.toList) (by simpa using il) (by simp [← hlen]) (by rw [hlen]; exact h64) (ksk_s1 _ _) (fun x => ksk_l1 _ _) (fun x => ksk_t1 _ _) ?_ ?_
  · intro i v k hv hk h tk own F N
    obtain ⟨x, hx⟩ : ∃ x, ps[i]? = some x := by
      rw [List.getElem?_map, Option.map_eq_some_iff] at hk; obtain ⟨x, e, _⟩ := hk; exact ⟨x, e⟩
    have hk' : x.1 = k := by rw [List.getElem?_map, hx] at hk; exact Option.some.inj hk
    subst hk'
    obtain ⟨r, hr, hvr⟩ := vr.getV hv
    have er : r = pv x := by rw [List.getElem?_map, hx] at hr; exact (Option.some.inj hr).symm
    subst er
    -- everything that stands is kept
    have keepN : ∀ b o, b ≠ C.env.locals → s₃.heap.get? b = some o → h.get? b = some o := fun b o hb e => (N (b, o) (List.mem_append_left _ (mem_allBut.mpr ⟨hb, e⟩))).1
    have Sx : StH C.G (fun b => h.get? b) (fun _ => none) { s₃ with heap := h, toks := tk } := by
      refine ⟨S3.toH.os, S3.toH.gens, fun b o e => keepN b o (fun q => ?_) (S3.toH.keep0 b o e), fun b o e => e, fun a o e => by (cases e), fun a o e => by (cases e)⟩
      subst q
      have := SW.top _ _ e
      have := (of_Bfr this).1
      exact this (.inl rfl)
    have tkh : TupKeep s₃.heap h := fun b o vs n e c d => keepN b o (fun q => by
      subst q
      obtain ⟨o', es, ep, ho, hd, _⟩ := ns
      rw [e] at ho; cases ho; rw [d] at hd; cases hd) e
    refine wpF_mono (key C.A.in1.in1 x (rm.in1.in1.le (by omega)) _ _ [v] Sx (.cons (hvr.mono tkh) .nil)) (fun u s₄ hz => ?_)
    obtain ⟨r, H4, v4, S4, e4, eH⟩ := hz
    subst e4
    cases v4
    obtain ⟨hp, g, d, t, os⟩ := s₄
    have e1 := S4.os
    have e2 := S4.gens
    dsimp only at e1 e2
    have e3 : s₃.gens = g := S3.toH.gens.trans e2.symm
    have e5 : s₃.drawn = d := S3.toH.os.2.trans e1.2.symm
    have e6 : s₃.os = os := S3.toH.os.1.trans e1.1.symm
    subst e3 e5 e6
    refine ⟨hp, t, _, rfl, rfl, ?_, fun p hp' => ⟨S4.keep _ _ (N p hp').1, (N p hp').2⟩⟩
    obtain ⟨⟨oL, es, ep, ho, hr⟩, k1, k2⟩ := F
    exact ⟨⟨oL, es, ep, S4.keep _ _ ho, hr⟩, fun b o e => S4.keep _ _ (k1 b o e), k2⟩
  · intro D h' tk out c F N lt K
    obtain ⟨zs, zp, zo, zs'⟩ := K
    have keepN : ∀ b o, b ≠ C.env.locals → s₃.heap.get? b = some o → h'.get? b = some o := fun b o hb e => (N (b, o) (List.mem_cons_of_mem _ (mem_allBut.mpr ⟨hb, e⟩))).1
    have hD := N (D, seqObj "list" out c) List.mem_cons_self
    have hDn : s₃.heap.get? D = none := by
      cases q : s₃.heap.get? D with
      | none => rfl
      | some o => exact absurd (lt (D, o) (mem_allBut.mpr ⟨hD.2.1, q⟩)) (Nat.lt_irrefl _)
    have tkh : TupKeep s₃.heap h' := fun b o vs n e c d => keepN b o (fun q => by
      subst q
      obtain ⟨o', es, ep, ho, hd, _⟩ := ns
      rw [e] at ho; cases ho; rw [d] at hd; cases hd) e
    have hBD : B D = none := by
      cases q : B D with
      | none => rfl
      | some o => rw [S3.toH.keep _ _ q] at hDn; cases hDn
    have hHD : H₂ D = none := by
      cases q : H₂ D with
      | none => rfl
      | some o => obtain ⟨ob, e, _⟩ := (S3.toH.hr _ _ q).obj; rw [hDn] at e; cases e
    have SH : StH C.G B H₂ { s₃ with heap := h', toks := tk } := by
      refine ⟨S3.toH.os, S3.toH.gens, S3.toH.top, fun b o e => keepN b o (fun q => ?_) (S3.toH.keep b o e), fun x o e => OR.mono (S3.toH.hr x o e) tkh fun ob e' => keepN _ _ (fun q => ?_) e', S3.toH.apart⟩
      · subst q; rw [SW.bl] at e; cases e
      · subst q; rw [S3.hl] at e; cases e
    have SW2 : StW C B σ H₂ { s₃ with heap := h', toks := tk } := by
      refine S.st ⟨SH, ⟨⟨m, F.ns, fun x r a b => by obtain ⟨v, h1, h2⟩ := hm x r a b; exact ⟨v, h1, h2.mono tkh⟩⟩, fun y d e => ?_⟩, S3.hl⟩
      obtain ⟨v, ⟨o, ho, hd⟩, hm2⟩ := S3.frm.cell y d e
      refine ⟨v, ⟨o, keepN _ _ (fun q => ?_) ho, hd⟩, fun r a b => by obtain ⟨v, h1, h2⟩ := hm2 r a b; exact ⟨v, h1, h2.mono tkh⟩⟩
      subst q
      obtain ⟨o', es, ep, ho', hd', _⟩ := ns
      rw [ho] at ho'; cases ho'; rw [hd] at hd'; cases hd'
    -- the pairs, sorted
    have vr2 := vr.mono tkh
    obtain ⟨qs, qp, qe⟩ : ∃ qs : List (Value × (Int × Int)), qs.Perm (vs.toList.zip ps) ∧ qs.map (fun t => (t.2.1, t.1)) = zs := by
      exact perm_lift (fun t : Value × (Int × Int) => (t.2.1, t.1)) zp (vs.toList.zip ps) (zip_keys _ _)
    have vrq : ∀ t ∈ vs.toList.zip ps, VR h' t.1 (pv t.2) := zip_vr _ _ vr2
    have vro : VRs h' out.toList ((qs.map (·.2)).map pv) := by
      rw [zo, ← qe]
      have : ∀ l : List (Value × (Int × Int)), (∀ t ∈ l, VR h' t.1 (pv t.2)) → VRs h' ((l.map (fun t => (t.2.1, t.1))).map Prod.snd) ((l.map (·.2)).map pv) := by
        intro l
        induction l with
        | nil => intro _; exact .nil
        | cons t l ih => intro ht; exact .cons (ht t List.mem_cons_self) (ih fun x hx => ht x (List.mem_cons_of_mem _ hx))
      exact this qs fun t ht => vrq t (qp.mem_iff.mp ht)
    have perm2 : (qs.map (·.2)).Perm ps := by
      have := qp.map (·.2)
      rw [List.map_snd_zip (by omega)] at this
      exact this
    have sorted2 : (qs.map (·.2)).Pairwise fun x y => x.1 ≤ y.1 := by
      rw [← qe] at zs'
      rw [List.pairwise_map] at zs' ⊢
      simpa using zs'
    have lenq : (qs.map (·.2)).length = ps.length := perm2.length_eq
    have orD : OR C.G.prog C.G.w h' D (.list ((qs.map (·.2)).map pv)) := ⟨out, c, hD.1, vro, by simp at lenq ⊢; omega⟩
    have SH3 := SW2.toSt.toH.put (o := .list ((qs.map (·.2)).map pv)) hBD orD
    have SW3 : StW C B σ (AH.put H₂ D (.list ((qs.map (·.2)).map pv))) { s₃ with heap := h', toks := tk } := SW2.st ⟨SH3, SW2.toSt.frm, by rw [AH.put_ne _ _ hD.2.1.symm]; exact SW2.toSt.hl⟩
    obtain ⟨vs', c', e', il', _, _, _⟩ := OR.isList orD
    refine wpAny_pyIter_list il' ⟨_, [h'.objs.size], _, _, _, _, rfl, Iter.list C.rm (Nat.ne_of_lt (Heap.lt_size e')), ⟨_, Heap.get?_push_size _ rfl, rfl, rfl⟩, ?_, SW3.ext (tk := tk) (fun b o e => Heap.get?_push_of_some _ e), q D _ hHD perm2 sorted2⟩
    intro b hb
    simp at hb; subst hb
    have fr := SW3.toSt.toH.fresh
    refine ⟨fr.1, fr.2, fun q => ?_, fun y q => ?_⟩
    · obtain ⟨m, ⟨o, es, ep, ho, r⟩, hm⟩ := SW3.toSt.frm.ns
      rw [← q] at ho
      exact absurd (Heap.lt_size ho) (Nat.lt_irrefl _)
    · obtain ⟨v, ⟨o, ho, hd⟩, _⟩ := SW3.toSt.frm.cell y _ q
      exact absurd (Heap.lt_size ho) (Nat.lt_irrefl _)
end
end Mine
namespace Mine
open PySem PySem.W PySem.Calls PyProof.Rows

/-- all that is asked of the heap that the program's top leaves -/
structure Ok (G : Gl) (a : Ad) : Prop extends Ok0 G a where
  firstOf : Fn G a.firstOf ["pair"] (fnScope (top 5)) (fnBody (top 5))
  bounds : Fn G a.bounds ["ranges"] (fnScope (top 6)) (fnBody (top 6))
  wanted : Fn G a.wanted ["way", "is_near", "is_far"] (fnScope (top 7)) (fnBody (top 7))
  merged : Fn G a.merged ["near", "far", "way"] (fnScope (top 8)) (fnBody (top 8))
  areLike : Fn G a.areLike ["one", "other"] (fnScope (top 10)) (fnBody (top 10))
  rows : Fn G a.rows ["range_map"] (fnScope (top 12)) (fnBody (top 12))
  defaults : Fn G a.defaults [] (fnScope (top 14)) (fnBody (top 14))
  deck : Fn G a.deck ["script"] (fnScope (top 19)) (fnBody (top 19))
  draw : Fn G a.draw ["deck", "many"] (fnScope (top 20)) (fnBody (top 20))
  pieces : Fn G a.pieces ["puts", "default"] (fnScope (top 21)) (fnBody (top 21))
  part : Fn G a.part ["pieces", "value"] (fnScope (top 22)) (fnBody (top 22))
  has : Fn G a.has ["some", "code"] (fnScope (top 23)) (fnBody (top 23))
  mixed : Fn G a.mixed ["near", "far", "way"] (fnScope (top 24)) (fnBody (top 24))
  right : Fn G a.right ["deck", "near", "far"] (fnScope (top 25)) (fnBody (top 25))
  cs0 : Fn G (a.cs 0) ["self", "bounds"] (fnScope (meth 9 0)) (fnBody (meth 9 0))
  cs1 : Fn G (a.cs 1) ["ranges"] (fnScope (meth 9 1)) (fnBody (meth 9 1))
  cs2 : Fn G (a.cs 2) ["self", "code"] (fnScope (meth 9 2)) (fnBody (meth 9 2))
  cs3 : Fn G (a.cs 3) ["self"] (fnScope (meth 9 3)) (fnBody (meth 9 3))
  cs4 : Fn G (a.cs 4) ["self"] (fnScope (meth 9 4)) (fnBody (meth 9 4))
  cs5 : Fn G (a.cs 5) ["self", "other"] (fnScope (meth 9 5)) (fnBody (meth 9 5))
  cs6 : Fn G (a.cs 6) ["self", "other"] (fnScope (meth 9 6)) (fnBody (meth 9 6))
  cs7 : Fn G (a.cs 7) ["self", "other"] (fnScope (meth 9 7)) (fnBody (meth 9 7))
  cs8 : Fn G (a.cs 8) ["self"] (fnScope (meth 9 8)) (fnBody (meth 9 8))
  cs9 : Fn G (a.cs 9) ["self", "first", "last"] (fnScope (meth 9 9)) (fnBody (meth 9 9))
  cs10 : Fn G (a.cs 10) ["self", "other"] (fnScope (meth 9 10)) (fnBody (meth 9 10))
  cs11 : Fn G (a.cs 11) ["self", "code"] (fnScope (meth 9 11)) (fnBody (meth 9 11))
  rm0 : Fn G (a.rm 0) ["self", "default"] (fnScope (meth 11 0)) (fnBody (meth 11 0))
  rm1 : Fn G (a.rm 1) ["self", "code"] (fnScope (meth 11 1)) (fnBody (meth 11 1))
  rm2 : Fn G (a.rm 2) ["self", "first", "last", "value"] (fnScope (meth 11 2)) (fnBody (meth 11 2))
  rm3 : Fn G (a.rm 3) ["self"] (fnScope (meth 11 3)) (fnBody (meth 11 3))
  rm4 : Fn G (a.rm 4) ["self", "value"] (fnScope (meth 11 4)) (fnBody (meth 11 4))
  da0 : Fn G (a.da 0) ["self"] (fnScope (meth 15 0)) (fnBody (meth 15 0))
  da1 : Fn G (a.da 1) ["self", "name", "first", "last", "value"] (fnScope (meth 15 1)) (fnBody (meth 15 1))
  da2 : Fn G (a.da 2) ["self", "name", "code"] (fnScope (meth 15 2)) (fnBody (meth 15 2))
  da3 : Fn G (a.da 3) ["self", "name"] (fnScope (meth 15 3)) (fnBody (meth 15 3))
  CS : Cls G a.CodeSet ["bounds"] [("has", a.cs 2), ("ranges", a.cs 3), ("size", a.cs 4), ("union", a.cs 5), ("both", a.cs 6), ("without", a.cs 7), ("opposite", a.cs 8), ("add", a.cs 9), ("equals", a.cs 10), ("first_at", a.cs 11)] (a.cs 0)
  RM : Cls G a.RangeMap ["default", "starts", "values"] [("get", a.rm 1), ("put", a.rm 2), ("ranges", a.rm 3), ("set_of", a.rm 4)] (a.rm 0)
  DA : Cls G a.Data ["defaults", "maps", "properties", "words"] [("put", a.da 1), ("get", a.da 2), ("map_of", a.da 3)] (a.da 0)
  of_ : ∀ A H, Gm G A (.lit (.ref a.CodeSet)) "of" H (.ref (a.cs 1)) [] H

theorem unpackItems_list {prog : Program} {w : World} {A : Around} {E : Value → Shared → Prop} {s : Shared} {l : Addr} {x y : Value} {Q : List Value → Shared → Prop} (hh : A.handled = none) (ht : s.heap.IsList l #[x, y])
    (hQ : ∀ h', Heap.ExtBut s.heap.objs.size s.heap h' → Q [x, y] { s with heap := h' }) : wpAny (model prog w) A (unpackItems (.ref l) 2 none) Q E s := by
  have hlt : l ≠ s.heap.objs.size := by obtain ⟨o, ho, _⟩ := ht; exact Nat.ne_of_lt (Heap.lt_size ho)
  unfold unpackItems
  refine wpAny_bind ?_
  · unfold notIterableAtAll
    refine wpAny_bind (wpAny_specialOf ht.typeIs slot_list_iter.lookup ?_)
    refine wpAny_pure ?_
    simp only [Bool.false_eq_true, if_false]
    refine wpAny_bind (wpAny_holding (wpAny_pyIter_list ht ?_))
    refine wpAny_bind (wpAny_holding ?_)
    have it0 : (s.heap.push { cls := .type "list_iterator", data := .fields #[.ref l, .int 0 0] }).IsListIter s.heap.objs.size l 0 := ⟨_, Heap.get?_push_size _ rfl, rfl, rfl⟩
    have l0 : (s.heap.push { cls := .type "list_iterator", data := .fields #[.ref l, .int 0 0] }).IsList l #[x, y] := ht.push _
    show wpAny _ _ (pyNext (.ref s.heap.objs.size) >>= _) _ _ _
    refine wpAny_bind (wpAny_pyNext_list_item (s := { s with heap := s.heap.push { cls := .type "list_iterator", data := .fields #[.ref l, .int 0 0] } }) it0 l0 (x := x) rfl fun h1 it1 s1 => ?_)
    refine wpAny_bind (wpAny_holding ?_)
    show wpAny _ _ (pyNext (.ref s.heap.objs.size) >>= _) _ _ _
    have l1 : h1.IsList l #[x, y] := l0.extBut s1.extBut hlt
    refine wpAny_bind (wpAny_pyNext_list_item (s := { s with heap := h1 }) it1 l1 (x := y) rfl fun h2 it2 s2 => ?_)
    have l2 : h2.IsList l #[x, y] := l1.extBut s2.extBut hlt
    refine wpAny_bind (wpAny_holding (wpAny_pure (wpAny_pure (wpAny_pure ?_))))
    rw [if_neg (by simp)]
    refine wpAny_bind (wpAny_holding (wpAny_pyNext_list_end (s := { s with heap := h2 }) hh it2 l2 rfl fun h3 e3 => ?_))
    simp only [Option.isSome_none, Bool.false_eq_true, if_false]
    exact wpAny_pure (hQ h3 fun b o hb e => e3 b o hb (s2.extBut b o hb (s1.extBut b o hb (Heap.get?_push_of_some _ e))))

section
variable {C : Cx} {σ : Lo} {H : AH}
/-- a, b = [..] -/
theorem Ex1.assignL {elts k tpos value pos} {Qn : Lo → AH → Prop} {Qr : V → AH → Prop}
    (h : Ev C value σ H fun r H' => ∃ a x y bs, r = .ref a ∧ H' a = some (.list [x, y]) ∧ zipNames elts [x, y] = some bs ∧ (∀ b ∈ bs, Own C b.1) ∧ Qn (σ.puts bs) H')
    (hs : swapsWithSole [.Tuple elts k tpos] value pos.line C.env = pure false := by with_unfolding_all rfl)
    (hw : swappedStores [.Tuple elts k tpos] value C.env = pure none := by with_unfolding_all rfl) : Ex1 C (.Assign [.Tuple elts k tpos] value pos) σ H Qn Qr := fun B s S => by
  refine Assign_Tuple (h.use S.toSt fun u s₁ r H₁ v1 S1 _ hz => ?_) hs hw
  obtain ⟨a, x, y, bs, e, ha, hz, o, q⟩ := hz
  subst e; obtain rfl := v1.r
  obtain ⟨vs, n, e, il, vr, z, z2⟩ := OR.isList (S1.toH.hr _ _ ha)
  obtain ⟨u, v, ev, v1, v2⟩ := vr.two
  have ev' : vs = #[u, v] := Array.toList_inj.mp (by rw [ev])
  subst ev'
  have SW := S.st S1
  have z0 := assigns (zipNames_zn _ _ hz) o SW (.cons v1 (.cons v2 .nil))
  rw [arm_assign_Tuple]
  refine wpAny_bind (wpAny_standAt ?_)
  unfold unpack
  rw [z0.1, z0.2.1]
  refine wpAny_bind (wpAny_holding (unpackItems_list C.rm.handled il fun h' xx => ?_))
  have kk : ∀ b o, s₁.heap.get? b = some o → h'.get? b = some o := fun b o e => xx b o (Nat.ne_of_lt (Heap.lt_size e)) e
  exact wpF_mono (assigns (zipNames_zn _ _ hz) o (SW.ext (tk := s₁.toks) kk) (.cons (v1.mono (.of_keep kk)) (.cons (v2.mono (.of_keep kk)) .nil))).2.2 fun _ s' S' => ⟨_, _, S', q⟩
end
end Mine
namespace Mine
open PySem PySem.W PySem.Calls PyProof.Rows
/-! how the steps are found -/
local macro_rules | `(tactic| walk_at "lo") => `(tactic| first | assumption | with_reducible exact Lo.put_self _ _ _ | (with_reducible refine (Lo.put_ne _ _ (by decide)).trans ?_; walk_at "lo") | with_unfolding_all rfl | (refine compLo_eq (by kernel_rfl) ?_; walk_at "lo"))
local macro_rules | `(tactic| walk_at "own") => `(tactic| first | exact Or.inl (by kernel_rfl) | exact Or.inr ⟨by kernel_rfl, by kernel_rfl⟩)
local macro_rules | `(tactic| walk_at "kp") => `(tactic| first | exact Kp.builtin | exact Kp.typ | exact Fn.kp (Ok0.place (Ok.toOk0 (by assumption))) | exact Fn.kp (Ok.firstOf (by assumption)) | exact Fn.kp (Ok.bounds (by assumption)) | exact Fn.kp (Ok.wanted (by assumption)) | exact Fn.kp (Ok.merged (by assumption)) | exact Fn.kp (Ok.areLike (by assumption)) | exact Fn.kp (Ok.rows (by assumption)) | exact Fn.kp (Ok.defaults (by assumption)) | exact Fn.kp (Ok.deck (by assumption)) | exact Fn.kp (Ok.draw (by assumption)) | exact Fn.kp (Ok.pieces (by assumption)) | exact Fn.kp (Ok.part (by assumption)) | exact Fn.kp (Ok.has (by assumption)) | exact Fn.kp (Ok.mixed (by assumption)) | exact Fn.kp (Ok.right (by assumption)) | exact Cls.kp (Ok.CS (by assumption)) | exact Cls.kp (Ok.RM (by assumption)) | exact Cls.kp (Ok.DA (by assumption)))
local macro_rules | `(tactic| walk_at "ev") => `(tactic| with_reducible first
  | refine Ex.cons ?_ | refine Ev.local (by kernel_rfl) (by walk_at "lo") ?_ | refine Ev.int ?_ | refine Ev.str ?_ | refine Ev.bool ?_ | refine Ev.none ?_
  | refine Ev.cell (by kernel_rfl) (by walk_at "lo") ?_
  | refine Ev.bi (Ok.toOk0 (by assumption)) (by kernel_rfl) (by with_unfolding_all rfl) ?_ | refine Ev.gl (Ok.toOk0 (by assumption)) (by kernel_rfl) (by with_unfolding_all rfl) ?_
  | refine Ev.binop ?_ | refine Ev.compare ?_ | refine Ev.sub ?_ | refine Ev.attr ?_ | refine Ga.own (Ok.CS (by assumption)) (by assumption) (by assumption) (by decide) (by with_unfolding_all rfl) (by with_unfolding_all rfl) ?_ | refine Ga.own (Ok.RM (by assumption)) (by assumption) (by assumption) (by decide) (by with_unfolding_all rfl) (by with_unfolding_all rfl) ?_ | refine Ga.own (Ok.DA (by assumption)) (by assumption) (by assumption) (by decide) (by with_unfolding_all rfl) (by with_unfolding_all rfl) ?_ | refine Ev.neg ?_ | refine Ev.ifexp ?_ | refine Ev.and ?_ | refine Ev.or ?_ | refine Ev.not ?_
  | refine Ev.call ?_ | refine Ev.call0 ?_ | refine ⟨_, rfl, (by walk_at "kp"), ?_⟩ | refine Ev.meth1 ?_ | refine Ev.meth0 ?_ | refine ⟨_, _, _, Gm.append (by assumption), Kp.builtin, ?_⟩ | refine ⟨_, _, _, Gm.extend (by assumption), Kp.builtin, ?_⟩ | refine Es.cons ?_ | refine Es.nil ?_
  | refine Do.add ?_ | refine Do.sub ?_ | refine Do.le ?_ | refine Do.lt ?_ | refine Do.gt ?_ | refine Do.ge ?_ | refine Do.eq ?_ | refine Do.ne ?_ | refine Do.eqStr ?_ | refine Do.neStr ?_ | refine Do.eqBool ?_ | refine Do.neBool ?_ | refine Do.iadd ?_ | refine Do.fdivS (by decide) (by decide) ?_ | refine Do.mod (by decide) ?_
  | refine Do.itemT (by decide) (by decide) (by with_unfolding_all rfl) ?_ | refine Do.last (by assumption) ?_ | refine Cl.intOf ?_ | refine Cl.tupleOf ?_ | refine Do.len (by assumption) ?_
  | refine Et.chain ?_ | refine Et.compare ?_ | refine Et.and ?_ | refine Et.or ?_ | refine Et.not ?_
  | refine Ev.list ?_ | refine Ev.tuple ?_
  | refine ⟨Nat.le_of_ble_eq_true (by with_unfolding_all rfl), ?_⟩ | refine ⟨rfl, ?_⟩
  | refine ⟨_, rfl, ?_⟩
  | refine Ex1.assign (by walk_at "own") ?_ | refine Ex1.ret ?_ | refine Ex1.ret0 ?_ | refine Ex1.if_ ?_ | refine Ex1.aug (by walk_at "own") ?_ ?_ | refine Ex1.expr ?_ | refine Ex.nil ?_ | refine Ep.none ?_ | refine Ep.some ?_ | refine Et.val ?_)

/-! how the steps are found -/

/-- values that a data holds -/
inductive S where
  | none | bool (b : Bool) | int (i : Int) | str (s : Str)
  deriving DecidableEq
noncomputable def S.v : S → V
  | .none => .none
  | .bool b => .bool b
  | .int i => .int i
  | .str s => .str s
theorem S.scal (s : S) : s.v.scal = true := by cases s <;> rfl
noncomputable def S.like (x y : S) : Bool := V.eqS x.v y.v && (x.v.isB == y.v.isB)
theorem beq_dec {α β : Type} [BEq α] [LawfulBEq α] [DecidableEq β] (f : α → β) (inj : ∀ p q, f p = f q → p = q) (p q : α) : ((p == q) && true) = decide (f p = f q) := by
  rw [Bool.and_true]
  by_cases h : p = q
  · subst h; rw [beq_self_eq_true]; exact (decide_eq_true rfl).symm
  · rw [beq_false_of_ne h]; exact (decide_eq_false fun e => h (inj _ _ e)).symm
theorem S.like_iff (x y : S) : S.like x y = decide (x = y) := by
  cases x <;> cases y <;> first
    | exact (decide_eq_true rfl).symm
    | exact (decide_eq_false (fun h => by cases h)).symm
    | exact (Bool.and_false _).trans (decide_eq_false (fun h => by cases h)).symm
    | exact beq_dec S.int (fun _ _ h => by cases h; rfl) _ _
    | exact beq_dec S.str (fun _ _ h => by cases h; rfl) _ _
    | exact beq_dec S.bool (fun _ _ h => by cases h; rfl) _ _
theorem w1 : ("both" : Str) ≠ "union" := by decide
theorem w2 : ("without" : Str) ≠ "union" := by decide
theorem w3 : ("without" : Str) ≠ "both" := by decide
noncomputable def wantedOf (way : Str) (p q : Bool) : Bool := if way = "union" then p || q else if way = "both" then p && q else if way = "without" then p && !q else p != q
section
variable {G : Gl} {a : Ad} (ok : Ok G a) {A : Around} {H : AH} {Q : V → AH → Prop} {n : Nat}
include ok
theorem c_firstOf {l : List V} {r : V} (rm : Rm A (n + 1)) (h : Q r H) : Clc G A (.ref a.firstOf) [.tup (r :: l)] H Q := by
  refine Clc.enter rm ok.firstOf rfl (by kernel_rfl) (by kernel_rfl) (by kernel_rfl) (by decide) fun env q code L => ?_
  refine Ex.cons ?_
  repeat walk_at "ev"
  exact h

theorem c_wanted {way : Str} {p q : Bool} (rm : Rm A (n + 1)) (h : Q (.bool (wantedOf way p q)) H) : Clc G A (.ref a.wanted) [.str way, .bool p, .bool q] H Q := by
  refine Clc.enter rm ok.wanted rfl (by kernel_rfl) (by kernel_rfl) (by kernel_rfl) (by decide) fun env q' code L => ?_
  refine Ex.cons ?_
  repeat walk_at "ev"
  refine ⟨fun e => ?_, fun e => ?_⟩
  · have e : way = "union" := by simpa using e
    subst e
    repeat walk_at "ev"
    refine ⟨fun e => ?_, fun e => ?_⟩ <;> subst e
    · simpa [wantedOf, w1, w2, w3] using h
    · repeat walk_at "ev"
      simpa [wantedOf, w1, w2, w3] using h
  have e : way ≠ "union" := by simpa using e
  repeat walk_at "ev"
  refine ⟨fun e => ?_, fun e => ?_⟩
  · have e : way = "both" := by simpa using e
    subst e
    repeat walk_at "ev"
    refine ⟨fun e => ?_, fun e => ?_⟩ <;> subst e
    · simpa [wantedOf, w1, w2, w3] using h
    · repeat walk_at "ev"
      simpa [wantedOf, w1, w2, w3] using h
  have e : way ≠ "both" := by simpa using e
  repeat walk_at "ev"
  refine ⟨fun e => ?_, fun e => ?_⟩
  · have e : way = "without" := by simpa using e
    subst e
    repeat walk_at "ev"
    refine ⟨fun e => ?_, fun e => ?_⟩ <;> subst e
    · simpa [wantedOf, w1, w2, w3] using h
    · repeat walk_at "ev"
      simpa [wantedOf, w1, w2, w3] using h
  have e : way ≠ "without" := by simpa using e
  repeat walk_at "ev"
  simpa [wantedOf, *] using h

theorem c_areLike {x y : S} (rm : Rm A (n + 1)) (h : Q (.bool (decide (x = y))) H) : Clc G A (.ref a.areLike) [x.v, y.v] H Q := by
  refine Clc.enter rm ok.areLike rfl (by kernel_rfl) (by kernel_rfl) (by kernel_rfl) (by decide) fun env q' code L => ?_
  refine Ex.cons ?_
  repeat walk_at "ev"
  refine Do.eqS x.scal y.scal ?_
  rw [← S.like_iff] at h
  refine ⟨_, rfl, fun e => ?_, fun e => ?_⟩
  · simpa [S.like, e] using h
  · repeat walk_at "ev"
    refine Cl.isBool x.scal ?_
    repeat walk_at "ev"
    refine Cl.isBool y.scal ?_
    repeat walk_at "ev"
    simpa [S.like, e] using h
end

/-! ## plain: bounds of sets of codes -/
noncomputable def cnt (l : List Int) (k : Int) : Nat := l.countP (· ≤ k)
noncomputable def Bd (l : List Int) (S : Int → Prop) : Prop := l.Pairwise (· < ·) ∧ l.length % 2 = 0 ∧ ∀ k, cnt l k % 2 = 1 ↔ S k
theorem cnt_append (l m : List Int) (k : Int) : cnt (l ++ m) k = cnt l k + cnt m k := by simp [cnt, List.countP_append]
theorem cnt_cons (x : Int) (m : List Int) (k : Int) : cnt (x :: m) k = cnt m k + if x ≤ k then 1 else 0 := by simp [cnt, List.countP_cons]
theorem cnt_all {l : List Int} {k : Int} (h : ∀ z ∈ l, z ≤ k) : cnt l k = l.length := by
  unfold cnt; rw [List.countP_eq_length]; simpa using h
theorem cnt_none {l : List Int} {k : Int} (h : ∀ z ∈ l, k < z) : cnt l k = 0 := by
  unfold cnt; rw [List.countP_eq_zero]; intro z hz; have := h z hz; simp; omega
theorem Bd.nil : Bd [] fun _ => False := ⟨.nil, rfl, fun k => by simp [cnt]⟩
theorem Bd.congr {l S T} (h : Bd l S) (e : ∀ k, S k ↔ T k) : Bd l T := ⟨h.1, h.2.1, fun k => (h.2.2 k).trans (e k)⟩
theorem Bd.snoc2 {l S} {x y : Int} (h : Bd l S) (hl : ∀ z ∈ l, z < x) (hxy : x < y) : Bd (l ++ [x, y]) fun k => S k ∨ (x ≤ k ∧ k < y) := by
  obtain ⟨h1, h2, h3⟩ := h
  refine ⟨?_, by simp; omega, fun k => ?_⟩
  · rw [List.pairwise_append]
    refine ⟨h1, by simp [hxy], fun z hz w hw => ?_⟩
    have := hl z hz
    simp at hw
    rcases hw with rfl | rfl <;> omega
  · rw [cnt_append, cnt_cons, cnt_cons]
    have e0 : cnt [] k = 0 := rfl
    rw [e0]
    by_cases q : x ≤ k
    · have e : cnt l k = l.length := cnt_all fun z hz => by have := hl z hz; omega
      have hS : ¬ S k := fun s => by have := (h3 k).mpr s; omega
      rw [e]
      by_cases q2 : y ≤ k
      · simp [q, q2, hS]; omega
      · simp [q, q2, hS]; omega
    · have q2 : ¬ y ≤ k := by omega
      simp [q, q2]
      exact h3 k

/-- what range_bounds keeps while it goes over sorted pairs -/
inductive BInv (rest : List (Int × Int)) (S : Int → Prop) : List Int → Prop
  | nil : (∀ k, ¬ S k) → BInv rest S []
  | snoc {g x y Sg} : Bd g Sg → (∀ z ∈ g, z < x) → x < y → (∀ k, S k ↔ Sg k ∨ (x ≤ k ∧ k < y)) → (∀ p ∈ rest, x ≤ p.1) → BInv rest S (g ++ [x, y])
noncomputable def stepB (f : List Int) (p : Int × Int) : List Int := match f.getLast? with
  | some y => if p.1 ≤ y then f.dropLast ++ [if p.2 + 1 > y then p.2 + 1 else y] else f ++ [p.1, p.2 + 1]
  | none => f ++ [p.1, p.2 + 1]
theorem BInv.step {p : Int × Int} {rest S f} (h : BInv (p :: rest) S f) (hp : p.1 ≤ p.2) (hs : ∀ q ∈ rest, p.1 ≤ q.1) : BInv rest (fun k => S k ∨ (p.1 ≤ k ∧ k ≤ p.2)) (stepB f p) := by
  cases h with
  | nil h =>
    show BInv _ _ ([] ++ [p.1, p.2 + 1])
    exact .snoc Bd.nil (by simp) (by omega) (fun k => by have := h k; simp [this]; omega) hs
  | @snoc g x y Sg hg hl hxy he hr =>
    have e1 : (g ++ [x, y]).getLast? = some y := by simp
    have e2 : (g ++ [x, y]).dropLast = g ++ [x] := by
      rw [show g ++ [x, y] = (g ++ [x]) ++ [y] by simp, List.dropLast_concat]
    have hxp := hr p List.mem_cons_self
    unfold stepB
    rw [e1]
    dsimp only
    split
    · rename_i q
      rw [e2, List.append_assoc]
      refine .snoc hg hl (x := x) (y := if p.2 + 1 > y then p.2 + 1 else y) (by split <;> omega) (fun k => ?_) fun q hq => hr q (List.mem_cons_of_mem _ hq)
      rw [he k]
      split <;> (constructor <;> (intro h; rcases h with h | h) <;> first | (rcases h with h | h <;> first | (exact .inl h) | (right; omega)) | (exact .inl (.inl h)) | skip)
      all_goals (by_cases z : k < y <;> first | (left; right; omega) | (right; omega))
    · rename_i q
      refine .snoc (hg.snoc2 hl hxy) (fun z hz => ?_) (by omega) (fun k => ?_) hs
      · simp at hz
        rcases hz with hz | rfl | rfl
        · have := hl z hz; omega
        · omega
        · omega
      · rw [he k]
        constructor
        · rintro (h | h)
          · exact .inl h
          · exact .inr (by omega)
        · rintro (h | h)
          · exact .inl h
          · exact .inr (by omega)
theorem BInv.bd {rest S f} (h : BInv rest S f) : Bd f S := by
  cases h with
  | nil h => exact Bd.nil.congr fun k => by simp [h k]
  | snoc hg hl hxy he hr => exact (hg.snoc2 hl hxy).congr fun k => (he k).symm

theorem Bd.mem_iff {l S} (h : Bd l S) (k : Int) : k ∈ l ↔ (S k ↔ ¬ S (k - 1)) := by
  obtain ⟨h1, h2, h3⟩ := h
  rw [← h3 k, ← h3 (k - 1)]
  have : cnt l k = cnt l (k - 1) + if k ∈ l then 1 else 0 := by
    clear h2 h3
    induction l with
    | nil => rfl
    | cons x t ih =>
      obtain ⟨a, b⟩ := List.pairwise_cons.mp h1
      rw [cnt_cons, cnt_cons, ih b]
      by_cases q : k = x
      · subst q
        have : k ∉ t := fun hm => by have := a k hm; omega
        simp [this]
        omega
      · simp only [List.mem_cons, q, false_or]
        by_cases q2 : x ≤ k
        · have : x ≤ k - 1 := by omega
          simp [q2, this]; omega
        · have : ¬ x ≤ k - 1 := by omega
          simp [q2, this]
  rw [this]
  by_cases q : k ∈ l
  · simp only [q, if_true, true_iff]; omega
  · simp only [q, if_false, false_iff]; omega
theorem sorted_ext : ∀ {l m : List Int}, l.Pairwise (· < ·) → m.Pairwise (· < ·) → (∀ k, k ∈ l ↔ k ∈ m) → l = m
  | [], [], _, _, _ => rfl
  | [], y :: m, _, _, h => by have := (h y).mpr List.mem_cons_self; simp at this
  | x :: l, [], _, _, h => by have := (h x).mp List.mem_cons_self; simp at this
  | x :: l, y :: m, h1, h2, h => by
    obtain ⟨a1, b1⟩ := List.pairwise_cons.mp h1
    obtain ⟨a2, b2⟩ := List.pairwise_cons.mp h2
    have e : x = y := by
      have m1 := (h x).mp List.mem_cons_self
      have m2 := (h y).mpr List.mem_cons_self
      rcases List.mem_cons.mp m1 with e | m1
      · exact e
      · rcases List.mem_cons.mp m2 with e | m2
        · exact e.symm
        · have := a1 y m2; have := a2 x m1; omega
    subst e
    rw [sorted_ext b1 b2 fun k => ?_]
    constructor
    · intro hk
      rcases List.mem_cons.mp ((h k).mp (List.mem_cons_of_mem _ hk)) with e | q
      · subst e; have := a1 k hk; omega
      · exact q
    · intro hk
      rcases List.mem_cons.mp ((h k).mpr (List.mem_cons_of_mem _ hk)) with e | q
      · subst e; have := a2 k hk; omega
      · exact q
theorem Bd.unique {l m S} (h1 : Bd l S) (h2 : Bd m S) : l = m := sorted_ext h1.1 h2.1 fun k => (h1.mem_iff k).trans (h2.mem_iff k).symm

/-! ## data of ints and of pairs -/
noncomputable def pInts (l : List Int) : PyData := .list (l.map .int)
theorem RDs.ints {H : AH} : ∀ l : List Int, RDs H (l.map V.int) (l.map PyData.int)
  | [] => .nil
  | i :: l => .cons (.int i) (RDs.ints l)
theorem RD.ints {H : AH} {a : Addr} {l : List Int} (h : H a = some (.list (l.map .int))) : RD H (.ref a) (pInts l) := .list h (RDs.ints l)
theorem lay_ints : ∀ l : List Int, PyData.canLayAll0 (l.map .int) = true ∧ PyData.depthAll (l.map .int) ≤ 0
  | [] => by simp [PyData.canLayAll0, PyData.depthAll]
  | i :: l => by
    have := lay_ints l
    simp [PyData.canLayAll0, PyData.depthAll, PyData.canLay0, PyData.depth, this]
theorem shaped_ints (l : List Int) : SeqAt.shaped (pInts l) = true := by
  have := lay_ints l
  unfold SeqAt.shaped pInts
  simp only [PyData.canLay0, PyData.depth, this.1, Bool.true_and]
  exact decide_eq_true (by have := this.2; omega)
theorem eqv_ints (l m : List Int) : PyData.eqv (pInts l) (pInts m) = decide (l = m) := by
  unfold pInts
  rw [show PyData.eqv (.list (l.map .int)) (.list (m.map .int)) = PyData.eqvAll (l.map .int) (m.map .int) from by simp [PyData.eqv]]
  exact PySem.W.ked_eqvAll l m
theorem fdiv_two (a b : Nat) : ((a : Int) + b).fdiv 2 = (((a + b) / 2 : Nat) : Int) := by
  rw [Int.fdiv_eq_ediv_of_nonneg _ (by omega)]; omega
theorem sorted_count {l : List Int} {k : Int} (hs : l.Pairwise (· < ·)) : ∀ {i : Nat} {x : Int}, l[i]? = some x → (x ≤ k ↔ i < l.countP (· ≤ k)) := by
  induction l with
  | nil => intro i x e; simp at e
  | cons y t ih =>
    intro i x e
    obtain ⟨h1, h2⟩ := List.pairwise_cons.mp hs
    rw [List.countP_cons]
    cases i with
    | zero =>
      simp only [List.getElem?_cons_zero, Option.some.injEq] at e
      subst e
      by_cases q : y ≤ k
      · simp [q]
      · have : t.countP (· ≤ k) = 0 := by
          rw [List.countP_eq_zero]; intro z hz; have := h1 z hz; simp; omega
        simp only [this]; simp [q]
    | succ i =>
      simp only [List.getElem?_cons_succ] at e
      have := ih h2 e
      by_cases q : y ≤ k
      · simp [q, this]
      · have hx : x ∈ t := List.mem_of_getElem? e
        have : t.countP (· ≤ k) = 0 := by
          rw [List.countP_eq_zero]; intro z hz; have := h1 z hz; simp; omega
        have := h1 x hx
        simp [q]; omega
noncomputable def placeOf (l : List Int) (k : Int) : Int := l.countP (· ≤ k) - 1

section
variable {G : Gl} {a : Ad} (ok : Ok G a) {A : Around} {H : AH} {Q : V → AH → Prop} {n : Nat}
include ok
theorem c_place {fs : Addr} {l : List Int} {k : Int} (rm : Rm A (n + 1)) (hl : H fs = some (.list (l.map .int))) (hs : l.Pairwise (· < ·)) (h : Q (.int (placeOf l k)) H) : Cl G A (.ref a.place) [.ref fs, .int k] H Q := by
  refine (Clc.enter rm ok.place rfl (by kernel_rfl) (by kernel_rfl) (by kernel_rfl) (by decide) fun env q code L => ?_).cl
  refine Ex.cons ?_
  repeat walk_at "ev"
  have cle : l.countP (· ≤ k) ≤ l.length := List.countP_le_length
  refine Ex1.while_ (fun m σ' H' => H' = H ∧ ∃ lo hi : Nat, σ' "firsts" = some (.ref fs) ∧ σ' "number" = some (.int k) ∧ σ' "low" = some (.int lo) ∧ σ' "high" = some (.int hi) ∧ hi ≤ l.length ∧ lo ≤ l.countP (· ≤ k) ∧ l.countP (· ≤ k) ≤ hi ∧ m = hi - lo) l.length
    ⟨rfl, 0, l.length, by walk_at "lo", by walk_at "lo", by walk_at "lo", by rw [Lo.put_self]; simp, Nat.le_refl _, Nat.zero_le _, cle, by omega⟩ fun m σ' H' hz => ?_
  obtain ⟨eH, lo, hi, s1, s2, s3, s4, h1, h2, h3, em⟩ := hz
  subst eH
  repeat walk_at "ev"
  refine ⟨fun e => ?_, fun e => ?_⟩
  · have e : (lo : Int) < hi := of_decide_eq_true e
    repeat walk_at "ev"
    rw [fdiv_two]
    have hm : (lo + hi) / 2 < l.length := by omega
    refine Do.item hl (by omega) (r := .int l[(lo + hi) / 2]) (by rw [Int.toNat_natCast, List.getElem?_map, List.getElem?_eq_getElem hm]; rfl) ?_
    repeat walk_at "ev"
    have sc := sorted_count hs (k := k) (List.getElem?_eq_getElem hm)
    refine ⟨fun e => ?_, fun e => ?_⟩
    · have e := sc.mp (of_decide_eq_true e)
      repeat walk_at "ev"
      exact ⟨hi - ((lo + hi) / 2 + 1), by omega, rfl, (lo + hi) / 2 + 1, hi, by walk_at "lo", by walk_at "lo", by walk_at "lo", by walk_at "lo", h1, by omega, h3, rfl⟩
    · have e := mt sc.mpr (of_decide_eq_false e)
      repeat walk_at "ev"
      exact ⟨(lo + hi) / 2 - lo, by omega, rfl, lo, (lo + hi) / 2, by walk_at "lo", by walk_at "lo", by walk_at "lo", by walk_at "lo", by omega, h2, by omega, rfl⟩
  · have e := of_decide_eq_false e
    repeat walk_at "ev"
    have : lo = l.countP (· ≤ k) := by omega
    subst this
    exact h
end
/-- what stands still stands -/
noncomputable def Ext (H H' : AH) : Prop := ∀ a o, H a = some o → H' a = some o
theorem Ext.refl (H : AH) : Ext H H := fun _ _ e => e
theorem Ext.trans {H H' H'' : AH} (x : Ext H H') (y : Ext H' H'') : Ext H H'' := fun a o e => y a o (x a o e)
theorem Ext.put {H : AH} {a : Addr} {o : AO} (h : H a = none) : Ext H (AH.put H a o) := fun b o' e => (AH.put_ne _ _ (fun q => by subst q; rw [h] at e; cases e)).trans e
theorem Ext.put' {H H' : AH} {a : Addr} {o : AO} (x : Ext H H') (h : H a = none) : Ext H (AH.put H' a o) := fun b o' e => (AH.put_ne _ _ (fun q => by subst q; rw [h] at e; cases e)).trans (x _ _ e)
theorem Ext.none {H H' : AH} {a : Addr} (x : Ext H H') (h : H' a = none) : H a = none := by
  cases q : H a with
  | none => rfl
  | some o => rw [x _ _ q] at h; cases h
/-- but for one place -/
noncomputable def ExtB (b : Addr) (H H' : AH) : Prop := ∀ a o, a ≠ b → H a = some o → H' a = some o
theorem ExtB.put {H : AH} {b : Addr} {o : AO} : ExtB b H (AH.put H b o) := fun a o' n e => (AH.put_ne _ _ n).trans e
theorem Ext.b {H H' : AH} {b : Addr} (x : Ext H H') : ExtB b H H' := fun a o _ e => x a o e
theorem ExtB.trans {b : Addr} {H H' H'' : AH} (x : ExtB b H H') (y : ExtB b H' H'') : ExtB b H H'' := fun a o n e => y a o n (x a o n e)
theorem ExtB.new {b : Addr} {H H' : AH} (x : ExtB b H H') (h : H b = none) : Ext H H' := fun a o e => x a o (fun q => by subst q; rw [h] at e; cases e) e

noncomputable def compOkB (C : Cx) (scope : Scope) : Bool := scope.kind == .function && scope.names.all fun y => y.2 != .cell && (y.2 != .free || C.env.kindOf y.1 == some .cell) && (y.2 != .local || scope.names.lookup y.1 == some .local)
theorem CompOk.of {C : Cx} {scope : Scope} (h : compOkB C scope = true) : CompOk C scope := by
  unfold compOkB at h
  simp only [Bool.and_eq_true, beq_iff_eq, List.all_eq_true] at h
  obtain ⟨h1, h2⟩ := h
  refine ⟨h1, fun y hy => ?_, fun x hx => ?_, fun x hx hl => ?_⟩
  · have := (h2 y hy).1.1; simpa using this
  · have := (h2 _ hx).1.2; simpa using this
  · have := (h2 x hx).2; rw [hl] at this; simpa using this

section
variable {C : Cx} {σ : Lo} {H : AH}
noncomputable abbrev KPure (C : Cx) (target elt : Expr) (ifs : List Expr) (scope : Scope) (ok : CompOk C scope) (σ : Lo) (R : List V → AH → Prop) : List V → (AH → Prop) → AH → Prop := fun rs Hc H₁ => ∃ f : V → Option V, Hc H₁ ∧ rs.length ≤ 2 ^ 19 ∧ (∀ L x, x ∈ rs → ∃ bs, tgBinds target x = some bs ∧ (∀ b ∈ bs, scope.names.lookup b.1 = some .local) ∧
      Ets (C.comp scope ok L) ifs ((compLo C scope σ).puts bs) H₁ fun b H'' => H'' = H₁ ∧ (b = true → Ev (C.comp scope ok L) elt ((compLo C scope σ).puts bs) H₁ fun r H3 => H3 = H₁ ∧ f x = some r) ∧ (b = false → f x = none)) ∧ R (rs.filterMap f) H₁
/-- a comprehension that leaves the heap as it is -/
theorem Co.pure {target iter elt : Expr} {ifs : List Expr} {scope : Scope} {ok : CompOk C scope} {R : List V → AH → Prop}
    (h : Ei C target iter σ H (KPure C target elt ifs scope ok σ R)) :
    Co C target iter elt ifs scope ok σ H R := fun B s S => by
  refine wpAny_mono (h B s S) (fun x s₁ h₁ => wpAny_mono h₁ (fun itv s₂ z => ?_) fun _ _ x => x) fun _ _ x => x
  obtain ⟨it, own, rs, Hc, P, H₁, e, It, p0, hf, S2, f, hc, hl, st, r⟩ := z
  refine ⟨it, own, rs, Hc, P, H₁, e, It, p0, hf, S2, fun i out H' => H' = H₁ ∧ out = (rs.take i).filterMap f, ⟨rfl, by simp⟩, ?_, ?_, ?_⟩
  · rintro i out H' ⟨rfl, rfl⟩
    refine ⟨hc, Nat.le_trans (List.length_filterMap_le _ _) ?_⟩
    rw [List.length_take]; omega
  · rintro L i x out H' hx ⟨rfl, rfl⟩
    obtain ⟨bs, b1, b2, b3⟩ := st L x (List.mem_of_getElem? hx)
    have ts : ∀ r, f x = some r → (rs.take (i + 1)).filterMap f = (rs.take i).filterMap f ++ [r] := fun r e => by
      rw [List.take_add_one, hx, List.filterMap_append]; simp [e]
    have tn : f x = none → (rs.take (i + 1)).filterMap f = (rs.take i).filterMap f := fun e => by
      rw [List.take_add_one, hx, List.filterMap_append]; simp [e]
    have conv : ∀ b H'', (H'' = H' ∧ (b = true → Ev (C.comp scope ok L) elt ((compLo C scope σ).puts bs) H' fun r H3 => H3 = H' ∧ f x = some r) ∧ (b = false → f x = none)) →
        ((b = true → Ev (C.comp scope ok L) elt ((compLo C scope σ).puts bs) H'' fun r H3 => H3 = H' ∧ (rs.take i).filterMap f ++ [r] = (rs.take (i + 1)).filterMap f) ∧ (b = false → H'' = H' ∧ (rs.take i).filterMap f = (rs.take (i + 1)).filterMap f)) := by
      rintro b H'' ⟨rfl, q1, q2⟩
      exact ⟨fun e => (q1 e).mono fun r H3 ⟨a, b⟩ => ⟨a, (ts r b).symm⟩, fun e => ⟨rfl, (tn (q2 e)).symm⟩⟩
    refine ⟨bs, b1, b2, ?_⟩
    match ifs, b3 with
    | [], b3 => exact conv true _ b3
    | [c], b3 => exact Et.mono b3 conv
  · rintro out H' ⟨rfl, rfl⟩
    rw [List.take_of_length_le (Nat.le_refl _)]
    exact r
end

theorem filterMap_pv (p : Int × Int → Bool) (ps : List (Int × Int)) : (ps.map pv).filterMap (fun v => match v with | .tup [.int x, .int y] => if p (x, y) then some v else none | _ => none) = (ps.filter p).map pv := by
  induction ps with
  | nil => rfl
  | cons x t ih =>
    rw [List.map_cons, List.filterMap_cons, ih, List.filter_cons]
    by_cases q : p x = true
    · have : (match pv x with | .tup [.int x, .int y] => if p (x, y) then some (pv (x, y)) else none | _ => none) = some (pv x) := by
        show (if p (x.1, x.2) = true then some (pv (x.1, x.2)) else none) = _
        rw [if_pos q]
      simp only [pv] at this ⊢
      simp [q, pv]
    · simp only [pv]
      simp [q]

theorem bl1 {names : List (Str × NameKind)} {x r} (h : names.lookup x = some .local) : ∀ b ∈ [((x, r) : Str × V)], names.lookup b.1 = some .local := fun b hb => by simp at hb; subst hb; exact h
theorem bl2 {names : List (Str × NameKind)} {x r y r'} (h : names.lookup x = some .local) (h' : names.lookup y = some .local) : ∀ b ∈ [((x, r) : Str × V), (y, r')], names.lookup b.1 = some .local := fun b hb => by simp at hb; rcases hb with rfl | rfl <;> assumption
theorem bl3 {names : List (Str × NameKind)} {x r y r' z r''} (h : names.lookup x = some .local) (h' : names.lookup y = some .local) (h'' : names.lookup z = some .local) : ∀ b ∈ [((x, r) : Str × V), (y, r'), (z, r'')], names.lookup b.1 = some .local := fun b hb => by simp at hb; rcases hb with rfl | rfl | rfl <;> assumption
theorem bo1 {C : Cx} {x r} (h : Own C x) : ∀ b ∈ [((x, r) : Str × V)], Own C b.1 := fun b hb => by simp at hb; subst hb; exact h
theorem bo2 {C : Cx} {x r y r'} (h : Own C x) (h' : Own C y) : ∀ b ∈ [((x, r) : Str × V), (y, r')], Own C b.1 := fun b hb => by simp at hb; rcases hb with rfl | rfl <;> assumption
theorem bo3 {C : Cx} {x r y r' z r''} (h : Own C x) (h' : Own C y) (h'' : Own C z) : ∀ b ∈ [((x, r) : Str × V), (y, r'), (z, r'')], Own C b.1 := fun b hb => by simp at hb; rcases hb with rfl | rfl | rfl <;> assumption
theorem eqv_nil (l : List Int) : (!PyData.eqv (pInts l) (pInts [])) = !decide (l = []) := by rw [eqv_ints]
theorem stepB_nil (p : Int × Int) : stepB [] p = [p.1, p.2 + 1] := rfl
theorem stepB_snoc (g : List Int) (y : Int) (p : Int × Int) : stepB (g ++ [y]) p = if p.1 ≤ y then g ++ [if p.2 + 1 > y then p.2 + 1 else y] else g ++ [y] ++ [p.1, p.2 + 1] := by
  unfold stepB
  rw [show (g ++ [y]).getLast? = some y by simp, List.dropLast_concat]
structure BSt (fo D : Addr) (ps' : List (Int × Int)) (H : AH) (i : Nat) (σ' : Lo) (H' : AH) (f : List Int) : Prop where
  s1 : σ' "found" = some (.ref fo)
  h1 : H' fo = some (.list (f.map .int))
  h2 : H' D = some (.list (ps'.map pv))
  hE : ExtB fo H H'
  hI : BInv (ps'.drop i) (fun k => ∃ p ∈ ps'.take i, p.1 ≤ k ∧ k ≤ p.2) f
  hl : f.length ≤ 2 * i
noncomputable def BLoop (fo D : Addr) (ps' : List (Int × Int)) (H : AH) (i : Nat) (σ' : Lo) (H' : AH) : Prop := ∃ f, BSt fo D ps' H i σ' H' f
section
variable {G : Gl} {a : Ad} (ok : Ok G a) {A : Around} {H : AH} {Q : V → AH → Prop} {n : Nat}
include ok
theorem c_bounds {r : Addr} {ps : List (Int × Int)} (rm : Rm A (n + 20)) (hr : H r = some (.list (ps.map pv))) (hz : ps.length < 64)
    (h : ∀ b l H', Bd l (fun k => ∃ p ∈ ps, p.1 ≤ k ∧ k ≤ p.2) → l.length ≤ 2 * ps.length → H b = none → Ext H H' → H' b = some (.list (l.map .int)) → Q (.ref b) H') : Clc G A (.ref a.bounds) [.ref r] H Q := by
  refine Clc.enter rm ok.bounds rfl (by kernel_rfl) (by kernel_rfl) (by kernel_rfl) (by decide) fun env q code L => ?_
  refine Ex.cons ?_
  repeat walk_at "ev"
  intro fo hfo
  repeat walk_at "ev"
  refine Ex1.forW ?_
  refine Eiw.sorted (f := a.firstOf) (n := n + 16) (rm.deeper env) ?_ ?_
  · repeat walk_at "ev"
    refine Ev.comp (CompOk.of (by kernel_rfl)) ?_
    refine Co.pure ?_
    refine Ei.list ?_
    repeat walk_at "ev"
    have hr' : (AH.put H fo (.list [])) r = some (.list (ps.map pv)) := Ext.put hfo _ _ hr
    refine ⟨r, ps.map pv, rfl, hr', (fun v => match v with | .tup [.int x, .int y] => if decide (x ≤ y) then some v else none | _ => none), hr', by simp; omega, fun L x hx => ?_, ?_⟩
    · obtain ⟨p, hp, rfl⟩ := List.mem_map.mp hx
      refine ⟨[("pair", pv p)], rfl, bl1 rfl, ?_⟩
      show Et _ _ _ _ _
      repeat walk_at "ev"
      refine ⟨fun e => ?_, fun e => ?_⟩
      · repeat walk_at "ev"
        show (if _ then _ else _) = _
        rw [if_pos e]
      · show (if _ then _ else _) = _
        rw [if_neg (by rw [e]; exact Bool.false_ne_true)]
    · have := filterMap_pv (fun p => decide (p.1 ≤ p.2)) ps
      rw [this]
      intro b hb
      refine ⟨b, ps.filter fun p => decide (p.1 ≤ p.2), rfl, AH.put_self _ _ _, Nat.lt_of_le_of_lt (List.length_filter_le _ _) hz, ?_⟩
      repeat walk_at "ev"
      refine fun D ps' hD perm srt => ?_
      have nfb : fo ≠ b := fun q => by subst q; rw [AH.put_self] at hb; cases hb
      have nfD : fo ≠ D := fun q => by subst q; rw [AH.put_ne _ _ nfb, AH.put_self] at hD; cases hD
      have E0 : ExtB fo H (AH.put (AH.put (AH.put H fo (.list [])) b (.list ((ps.filter fun p => decide (p.1 ≤ p.2)).map pv))) D (.list (ps'.map pv))) :=
        (((Ext.put hfo).put' (Ext.none (Ext.put hfo) hb)).put' (Ext.none (Ext.put hfo) (Ext.none (Ext.put hb) hD))).b
      have hD0 : H D = none := Ext.none (Ext.put hfo) (Ext.none (Ext.put hb) hD)
      have hle : ∀ p ∈ ps', p.1 ≤ p.2 := fun p hp => by
        have := perm.mem_iff.mp hp
        simpa using (List.mem_filter.mp this).2
      have hlen : ps'.length ≤ ps.length := by rw [perm.length_eq]; exact List.length_filter_le _ _
      refine ⟨BLoop fo D ps' H,
        ⟨([] : List Int), (by walk_at "lo"), by rw [AH.put_ne _ _ nfD, AH.put_ne _ _ nfb, AH.put_self]; rfl, AH.put_self _ _ _, E0, .nil (by simp), Nat.zero_le _⟩, fun i σ' H' ⟨f, s⟩ => s.h2, ?_, ?_⟩
      · rintro i x σ' H' hx ⟨f, s1, h1, h2, hE, hI, hl⟩
        rw [List.getElem?_map, Option.map_eq_some_iff] at hx
        obtain ⟨p, hp, rfl⟩ := hx
        have hi : i < ps'.length := (List.getElem?_eq_some_iff.mp hp).1
        have hd : ps'.drop i = p :: ps'.drop (i + 1) := by rw [List.drop_eq_getElem_cons hi]; congr 1; rw [List.getElem?_eq_getElem hi] at hp; exact Option.some.inj hp
        have ht : ps'.take (i + 1) = ps'.take i ++ [p] := by rw [List.take_add_one, hp]; rfl
        have hpm : p ∈ ps' := List.mem_of_getElem? hp
        rw [hd] at hI
        have hs' : ∀ q ∈ ps'.drop (i + 1), p.1 ≤ q.1 := fun q hq => by
          have : (ps'.drop i).Pairwise fun x y => x.1 ≤ y.1 := srt.drop
          rw [hd] at this
          exact (List.pairwise_cons.mp this).1 q hq
        have hI' := hI.step (hle p hpm) hs'
        have hS : ∀ k, ((∃ q ∈ ps'.take i, q.1 ≤ k ∧ k ≤ q.2) ∨ (p.1 ≤ k ∧ k ≤ p.2)) ↔ ∃ q ∈ ps'.take (i + 1), q.1 ≤ k ∧ k ≤ q.2 := fun k => by
          rw [ht]; simp [or_and_right, exists_or]
        have hI2 : BInv (ps'.drop (i + 1)) (fun k => ∃ q ∈ ps'.take (i + 1), q.1 ≤ k ∧ k ≤ q.2) (stepB f p) := by
          have : (fun k => (∃ q ∈ ps'.take i, q.1 ≤ k ∧ k ≤ q.2) ∨ (p.1 ≤ k ∧ k ≤ p.2)) = fun k => ∃ q ∈ ps'.take (i + 1), q.1 ≤ k ∧ k ≤ q.2 := funext fun k => propext (hS k)
          rw [← this]; exact hI'
        refine As.tg rfl (bo2 (by walk_at "own") (by walk_at "own")) ?_
        have s2 : (σ'.puts [("first", .int p.1), ("last", .int (p.2))]) "found" = some (.ref fo) := by
          show ((σ'.put "first" (.int p.1)).put "last" (.int p.2)) "found" = _
          walk_at "lo"
        have s3 : (σ'.puts [("first", .int p.1), ("last", .int (p.2))]) "first" = some (.int p.1) := by
          show ((σ'.put "first" (.int p.1)).put "last" (.int p.2)) "first" = _
          walk_at "lo"
        have s4 : (σ'.puts [("first", .int p.1), ("last", .int (p.2))]) "last" = some (.int p.2) := by
          show ((σ'.put "first" (.int p.1)).put "last" (.int p.2)) "last" = _
          walk_at "lo"
        generalize (σ'.puts [("first", .int p.1), ("last", .int (p.2))]) = σ2 at *
        repeat walk_at "ev"
        intro c hc
        have h1c : (AH.put H' c (.list [])) fo = some (.list (f.map .int)) := Ext.put hc _ _ h1
        refine Do.neD (n := n) ((rm.deeper env).to) (RD.ints h1c) (RD.ints (l := []) (AH.put_self _ _ _)) (shaped_ints _) (shaped_ints _) ?_
        rw [eqv_nil]
        have h2c : (AH.put H' c (.list [])) D = some (.list (ps'.map pv)) := Ext.put hc _ _ h2
        have hEc : ExtB fo H (AH.put H' c (.list [])) := hE.trans (Ext.put hc).b
        have hfin : stepB f p = (stepB f p) := rfl
        have hll : f.length ≤ 128 := by omega
        generalize (AH.put H' c (.list [])) = H1 at *
        refine ⟨_, rfl, fun e => ?_, fun e => ?_⟩
        · have e : f = [] := by simpa using e
          subst e
          refine ⟨fun e => (by cases e), fun _ => ?_⟩
          repeat walk_at "ev"
          intro d hd
          have h1d : (AH.put H1 d (.list [.int p.1, .int (p.2 + 1)])) fo = some (.list []) := Ext.put hd _ _ h1c
          repeat walk_at "ev"
          refine Cl.extend (l2 := [.int p.1, .int (p.2 + 1)]) h1d (AH.put_self _ _ _) (by simp) (by simp) ?_
          repeat walk_at "ev"
          refine ⟨[p.1, p.2 + 1], s2, AH.put_self _ _ _, ?_, ?_, hI2, by simp; omega⟩
          · rw [AH.put_ne _ _ nfD.symm]; exact Ext.put hd _ _ h2c
          · exact (hEc.trans (Ext.put hd).b).trans .put
        · have e : f ≠ [] := by simpa using e
          obtain ⟨g, y, rfl⟩ : ∃ g y, f = g ++ [y] := ⟨f.dropLast, f.getLast e, (List.dropLast_concat_getLast e).symm⟩
          rw [stepB_snoc] at hI2
          rw [List.map_append] at h1c
          have h1c : H1 fo = some (.list (g.map .int ++ [.int y])) := h1c
          repeat walk_at "ev"
          refine ⟨fun e => ?_, fun e => ?_⟩
          · have e := of_decide_eq_true e
            rw [if_pos e] at hI2
            refine Ex.cons ?_
            refine Ex1.setitem ?_
            repeat walk_at "ev"
            refine Cl.max ((rm.deeper env).base) ?_
            repeat walk_at "ev"
            refine Si.last h1c ?_
            repeat walk_at "ev"
            refine ⟨g ++ [if p.2 + 1 > y then p.2 + 1 else y], s2, by rw [AH.put_self, List.map_append]; rfl, ?_, hEc.trans .put, hI2, by simp at hl ⊢; omega⟩
            rw [AH.put_ne _ _ nfD.symm]; exact h2c
          · have e := of_decide_eq_false e
            rw [if_neg e] at hI2
            repeat walk_at "ev"
            intro d hd
            have h1d := Ext.put (o := .list [.int p.1, .int (p.2 + 1)]) hd _ _ h1c
            repeat walk_at "ev"
            refine Cl.extend (l2 := [.int p.1, .int (p.2 + 1)]) h1d (AH.put_self _ _ _) (by simp at hll ⊢; omega) (by simp) ?_
            repeat walk_at "ev"
            refine ⟨g ++ [y] ++ [p.1, p.2 + 1], s2, by rw [AH.put_self]; simp, ?_, ?_, hI2, by simp at hl ⊢; omega⟩
            · rw [AH.put_ne _ _ nfD.symm]; exact Ext.put hd _ _ h2c
            · exact (hEc.trans (Ext.put hd).b).trans .put
      · rintro σ' H' ⟨f, s1, h1, h2, hE, hI, hl⟩
        repeat walk_at "ev"
        rw [List.length_map] at hI hl
        rw [List.take_of_length_le (Nat.le_refl _)] at hI
        refine h fo f H' (hI.bd.congr fun k => ?_) (by omega) hfo (hE.new hfo) h1
        constructor
        · rintro ⟨q, hq, a, b⟩
          exact ⟨q, (List.mem_filter.mp (perm.mem_iff.mp hq)).1, a, b⟩
        · rintro ⟨q, hq, a, b⟩
          exact ⟨q, perm.mem_iff.mpr (List.mem_filter.mpr ⟨hq, by simpa using (by omega : q.1 ≤ q.2)⟩), a, b⟩
  · intro A x rm
    exact (c_firstOf ok rm ⟨rfl, rfl⟩).cl
end
/-! ## plain: two lists of bounds merged -/
structure MInv (way : Str) (near far : List Int) (at_ be : Nat) (isin : Bool) (found : List Int) : Prop where
  ha : at_ ≤ near.length
  hb : be ≤ far.length
  srt : found.Pairwise (· < ·)
  lt : ∀ z ∈ found, ∀ w ∈ near.drop at_ ++ far.drop be, z < w
  taken : ∀ z ∈ near.take at_ ++ far.take be, ∀ w ∈ near.drop at_ ++ far.drop be, z < w
  sem : ∀ k, (∀ w ∈ near.drop at_ ++ far.drop be, k < w) → ((cnt found k % 2 = 1) ↔ wantedOf way (cnt near k % 2 == 1) (cnt far k % 2 == 1) = true)
  par : found.length % 2 = 1 ↔ isin = true
  eq : isin = wantedOf way (at_ % 2 == 1) (be % 2 == 1)
theorem wanted_ff (way : Str) : wantedOf way false false = false := by unfold wantedOf; split <;> (try split) <;> (try split) <;> rfl
theorem MInv.zero (way : Str) (near far : List Int) : MInv way near far 0 0 false [] where
  ha := Nat.zero_le _
  hb := Nat.zero_le _
  srt := .nil
  lt := by simp
  taken := by simp
  sem := fun k h => by
    have e1 : cnt near k = 0 := cnt_none fun z hz => h z (by simp [hz])
    have e2 : cnt far k = 0 := cnt_none fun z hz => h z (by simp [hz])
    rw [e1, e2]
    simp [cnt, wanted_ff]
  par := by simp
  eq := (wanted_ff way).symm

theorem dropStep {l : List Int} (hs : l.Pairwise (· < ·)) {i : Nat} {b : Int} (hm : ∀ w ∈ l.drop i, b ≤ w) :
    (∀ w ∈ l.drop (if l[i]? = some b then i + 1 else i), b < w ∧ w ∈ l.drop i) ∧ (∀ z ∈ l.take (if l[i]? = some b then i + 1 else i), z ∈ l.take i ∨ z = b) := by
  split
  · rename_i e
    have hi := (List.getElem?_eq_some_iff.mp e).1
    have hd : l.drop i = b :: l.drop (i + 1) := by rw [List.drop_eq_getElem_cons hi]; congr 1; rw [List.getElem?_eq_getElem hi] at e; exact Option.some.inj e
    have ht : l.take (i + 1) = l.take i ++ [b] := by rw [List.take_add_one, e]; rfl
    have hp : (l.drop i).Pairwise (· < ·) := hs.drop
    rw [hd] at hp
    refine ⟨fun w hw => ⟨(List.pairwise_cons.mp hp).1 w hw, by rw [hd]; exact List.mem_cons_of_mem _ hw⟩, fun z hz => ?_⟩
    rw [ht] at hz
    simp at hz
    rcases hz with hz | hz
    · exact .inl hz
    · exact .inr hz
  · rename_i e
    refine ⟨fun w hw => ⟨?_, hw⟩, fun z hz => .inl hz⟩
    have h1 := hm w hw
    rcases Int.lt_or_eq_of_le h1 with h | h
    · exact h
    · subst h
      exfalso
      cases hd : l.drop i with
      | nil => rw [hd] at hw; cases hw
      | cons y t =>
        have hy : l[i]? = some y := by
          have := List.getElem?_drop (xs := l) (i := i) (j := 0)
          rw [hd] at this; simpa using this.symm
        rw [hd] at hw hm
        have hp : (l.drop i).Pairwise (· < ·) := hs.drop
        rw [hd] at hp
        have := hm y List.mem_cons_self
        rcases List.mem_cons.mp hw with q | q
        · subst q; exact e hy
        · have := (List.pairwise_cons.mp hp).1 _ q; omega

theorem MInv.step {way : Str} {near far : List Int} {i j : Nat} {isin : Bool} {found : List Int} {b : Int} (M : MInv way near far i j isin found) (hn : near.Pairwise (· < ·)) (hf : far.Pairwise (· < ·))
    (hb : b ∈ near.drop i ++ far.drop j) (hm : ∀ w ∈ near.drop i ++ far.drop j, b ≤ w) {i' j' : Nat} (ei : i' = if near[i]? = some b then i + 1 else i) (ej : j' = if far[j]? = some b then j + 1 else j) {nxt : Bool}
    (en : nxt = wantedOf way (i' % 2 == 1) (j' % 2 == 1)) : MInv way near far i' j' nxt (if nxt != isin then found ++ [b] else found) ∧ (near.length - i') + (far.length - j') < (near.length - i) + (far.length - j) := by
  have d1 := dropStep hn (i := i) (b := b) fun w hw => hm w (by simp [hw])
  have d2 := dropStep hf (i := j) (b := b) fun w hw => hm w (by simp [hw])
  rw [← ei] at d1
  rw [← ej] at d2
  have gt : ∀ w ∈ near.drop i' ++ far.drop j', b < w ∧ w ∈ near.drop i ++ far.drop j := fun w hw => by
    rcases List.mem_append.mp hw with h | h
    · exact ⟨(d1.1 w h).1, List.mem_append_left _ (d1.1 w h).2⟩
    · exact ⟨(d2.1 w h).1, List.mem_append_right _ (d2.1 w h).2⟩
  have tk : ∀ z ∈ near.take i' ++ far.take j', z ∈ near.take i ++ far.take j ∨ z = b := fun z hz => by
    rcases List.mem_append.mp hz with h | h
    · rcases d1.2 z h with h | h
      · exact .inl (List.mem_append_left _ h)
      · exact .inr h
    · rcases d2.2 z h with h | h
      · exact .inl (List.mem_append_right _ h)
      · exact .inr h
  have tkle : ∀ z ∈ near.take i' ++ far.take j', z ≤ b := fun z hz => by
    rcases tk z hz with h | h
    · have := M.taken z h b hb; omega
    · omega
  have flt : ∀ z ∈ found, z < b := fun z hz => M.lt z hz b hb
  have hi' : i' ≤ near.length := by
    have := M.ha
    rw [ei]; split
    · rename_i e; have := (List.getElem?_eq_some_iff.mp e).1; omega
    · exact this
  have hj' : j' ≤ far.length := by
    have := M.hb
    rw [ej]; split
    · rename_i e; have := (List.getElem?_eq_some_iff.mp e).1; omega
    · exact this
  have fle : ∀ z ∈ (if nxt != isin then found ++ [b] else found), z ≤ b := fun z hz => by
    split at hz
    · rcases List.mem_append.mp hz with h | h
      · have := flt z h; omega
      · simp at h; omega
    · have := flt z hz; omega
  have par' : (if nxt != isin then found ++ [b] else found).length % 2 = 1 ↔ nxt = true := by
    have p := M.par
    cases nxt <;> cases isin <;> simp at p ⊢ <;> omega
  refine ⟨⟨hi', hj', ?_, fun z hz w hw => ?_, fun z hz w hw => ?_, fun k hk => ?_, par', en⟩, ?_⟩
  · split
    · rw [List.pairwise_append]
      exact ⟨M.srt, by simp, fun z hz w hw => by simp at hw; subst hw; exact flt z hz⟩
    · exact M.srt
  · have := fle z hz; have := (gt w hw).1; omega
  · have := tkle z hz; have := (gt w hw).1; omega
  · by_cases q : b ≤ k
    · have e1 : cnt near k = i' := by
        have : near = near.take i' ++ near.drop i' := (List.take_append_drop _ _).symm
        rw [this, cnt_append, cnt_all fun z hz => by have := tkle z (by simp [hz]); omega, cnt_none fun z hz => hk z (by simp [hz]), List.length_take]
        omega
      have e2 : cnt far k = j' := by
        have : far = far.take j' ++ far.drop j' := (List.take_append_drop _ _).symm
        rw [this, cnt_append, cnt_all fun z hz => by have := tkle z (by simp [hz]); omega, cnt_none fun z hz => hk z (by simp [hz]), List.length_take]
        omega
      rw [e1, e2, ← en, cnt_all fun z hz => by have := fle z hz; omega]
      exact par'
    · have e : cnt (if nxt != isin then found ++ [b] else found) k = cnt found k := by
        split
        · rw [cnt_append, cnt_cons]; simp [q, cnt]
        · rfl
      rw [e]
      exact M.sem k fun w hw => by have := hm w hw; omega
  · rcases List.mem_append.mp hb with h | h
    · have : near[i]? = some b := by
        cases hd : near.drop i with
        | nil => rw [hd] at h; cases h
        | cons y t =>
          have hy : near[i]? = some y := by
            have := List.getElem?_drop (xs := near) (i := i) (j := 0)
            rw [hd] at this; simpa using this.symm
          have hp : (near.drop i).Pairwise (· < ·) := hn.drop
          rw [hd] at hp h
          rcases List.mem_cons.mp h with q | q
          · subst q; exact hy
          · have := (List.pairwise_cons.mp hp).1 _ q
            have := hm y (by rw [hd]; simp); omega
      have hl := (List.getElem?_eq_some_iff.mp this).1
      have : i' = i + 1 := by rw [ei, if_pos this]
      have : j ≤ j' := by rw [ej]; split <;> omega
      omega
    · have : far[j]? = some b := by
        cases hd : far.drop j with
        | nil => rw [hd] at h; cases h
        | cons y t =>
          have hy : far[j]? = some y := by
            have := List.getElem?_drop (xs := far) (i := j) (j := 0)
            rw [hd] at this; simpa using this.symm
          have hp : (far.drop j).Pairwise (· < ·) := hf.drop
          rw [hd] at hp h
          rcases List.mem_cons.mp h with q | q
          · subst q; exact hy
          · have := (List.pairwise_cons.mp hp).1 _ q
            have := hm y (by rw [hd]; simp); omega
      have hl := (List.getElem?_eq_some_iff.mp this).1
      have : j' = j + 1 := by rw [ej, if_pos this]
      have : i ≤ i' := by rw [ei]; split <;> omega
      omega
theorem MInv.done {way : Str} {near far : List Int} {isin : Bool} {found : List Int} {i j : Nat} (M : MInv way near far i j isin found) (hi : near.length ≤ i) (hj : far.length ≤ j) {S T : Int → Prop} (hn : Bd near S) (hf : Bd far T) {R : Int → Prop}
    (hR : ∀ k (p q : Bool), (p = true ↔ S k) → (q = true ↔ T k) → (wantedOf way p q = true ↔ R k)) : Bd found R := by
  have e1 : i = near.length := by have := M.ha; omega
  have e2 : j = far.length := by have := M.hb; omega
  subst e1 e2
  refine ⟨M.srt, ?_, fun k => ?_⟩
  · have := M.eq
    have z1 : (near.length % 2 == 1) = false := by have := hn.2.1; simp; omega
    have z2 : (far.length % 2 == 1) = false := by have := hf.2.1; simp; omega
    rw [z1, z2, wanted_ff] at this
    have p := M.par
    rw [this] at p
    simp at p; omega
  · rw [M.sem k (by simp)]
    exact hR k _ _ (by rw [beq_iff_eq]; exact hn.2.2 k) (by rw [beq_iff_eq]; exact hf.2.2 k)
section
variable {C : Cx} {σ : Lo} {H : AH} {Qn : Lo → AH → Prop} {Qr : V → AH → Prop}
/-- a statement up to what the rest needs -/
theorem Ex1.cut {st} (Mid : Lo → AH → Prop) (h : Ex1 C st σ H Mid Qr) (n : ∀ σ H, Mid σ H → Qn σ H) : Ex1 C st σ H Qn Qr := fun B s S =>
  wpAny_mono (h B s S) (fun f s' x => by
    cases f with
    | next => obtain ⟨a, b, c, d⟩ := x; exact ⟨a, b, c, n _ _ d⟩
    | ret v => exact x
    | _ => exact x) fun _ _ x => x
end
theorem bo4 {C : Cx} {x r y r' z r'' w r3} (h : Own C x) (h' : Own C y) (h'' : Own C z) (h3 : Own C w) : ∀ b ∈ [((x, r) : Str × V), (y, r'), (z, r''), (w, r3)], Own C b.1 := fun b hb => by simp at hb; rcases hb with rfl | rfl | rfl | rfl <;> assumption
theorem mod_two (i : Nat) : ((i : Int).fmod 2 == 1) = (i % 2 == 1) := by
  have : (i : Int).fmod 2 = ((i % 2 : Nat) : Int) := by rw [Int.fmod_eq_emod_of_nonneg _ (by omega)]; omega
  rw [this, Bool.eq_iff_iff, beq_iff_eq, beq_iff_eq]
  omega
theorem item_get {l : List Int} {i : Nat} {x : Int} (h : l[i]? = some x) : (l.map V.int)[((i : Nat) : Int).toNat]? = some (.int x) := by
  rw [Int.toNat_natCast, List.getElem?_map, h]; rfl

theorem dropMin {l : List Int} (hs : l.Pairwise (· < ·)) {i : Nat} {x : Int} (h : l[i]? = some x) : x ∈ l.drop i ∧ ∀ w ∈ l.drop i, x ≤ w := by
  have hi := (List.getElem?_eq_some_iff.mp h).1
  have hd : l.drop i = x :: l.drop (i + 1) := by rw [List.drop_eq_getElem_cons hi]; congr 1; rw [List.getElem?_eq_getElem hi] at h; exact Option.some.inj h
  have hp : (l.drop i).Pairwise (· < ·) := hs.drop
  rw [hd] at hp ⊢
  refine ⟨List.mem_cons_self, fun w hw => ?_⟩
  rcases List.mem_cons.mp hw with q | q
  · omega
  · have := (List.pairwise_cons.mp hp).1 w q; omega
theorem drop_ne {l : List Int} {i : Nat} {w : Int} (h : w ∈ l.drop i) : ∃ y, l[i]? = some y := by
  have : i < l.length := by
    rcases Nat.lt_or_ge i l.length with q | q
    · exact q
    · rw [List.drop_of_length_le q] at h; cases h
  exact ⟨_, List.getElem?_eq_getElem this⟩
theorem minBoth {l m : List Int} (hl : l.Pairwise (· < ·)) (hm : m.Pairwise (· < ·)) {i j : Nat} {x : Int} (h : l[i]? = some x) (h2 : ∀ y, m[j]? = some y → x ≤ y) : ∀ w ∈ l.drop i ++ m.drop j, x ≤ w := fun w hw => by
  rcases List.mem_append.mp hw with q | q
  · exact (dropMin hl h).2 w q
  · obtain ⟨y, hy⟩ := drop_ne q
    have := (dropMin hm hy).2 w q
    have := h2 y hy
    omega
theorem if_len (c : Bool) (f : List Int) (b : Int) : (if c = true then f ++ [b] else f).length ≤ f.length + 1 := by cases c <;> simp
noncomputable def whBody : Stmt → List Stmt
  | .While _ b _ _ => b
  | .For _ _ b _ _ => b
  | .If _ b _ _ => b
  | _ => []
noncomputable def st (i j : Nat) : Stmt := (fnBody (top i)).getD j (.Pass ⟨0, 0, 0, 0⟩)
/-- a statement within -/
noncomputable def sti (s : Stmt) (j : Nat) : Stmt := (whBody s).getD j (.Pass ⟨0, 0, 0, 0⟩)
noncomputable def wst (k : Nat) : Stmt := (whBody ((fnBody (top 8)).getD 1 (.Pass ⟨0, 0, 0, 0⟩))).getD k (.Pass ⟨0, 0, 0, 0⟩)
structure MS (nr fr fo : Addr) (way : Str) (i j : Nat) (isin : Bool) (σ : Lo) : Prop where
  s1 : σ "near" = some (.ref nr)
  s2 : σ "far" = some (.ref fr)
  s3 : σ "way" = some (.str way)
  s4 : σ "found" = some (.ref fo)
  s5 : σ "at" = some (.int i)
  s6 : σ "beside" = some (.int j)
  s7 : σ "is_in" = some (.bool isin)
structure MSt (nr fr fo : Addr) (way : Str) (near far : List Int) (H : AH) (m : Nat) (σ : Lo) (H' : AH) (i j : Nat) (isin : Bool) (f : List Int) : Prop where
  ms : MS nr fr fo way i j isin σ
  g1 : H' fo = some (.list (f.map .int))
  gE : ExtB fo H H'
  M : MInv way near far i j isin f
  gl : f.length ≤ i + j
  em : m = (near.length - i) + (far.length - j)
noncomputable def MLoop (nr fr fo : Addr) (way : Str) (near far : List Int) (H : AH) (m : Nat) (σ : Lo) (H' : AH) : Prop := ∃ i j isin f, MSt nr fr fo way near far H m σ H' i j isin f
section
variable {G : Gl} {a : Ad} (ok : Ok G a) {A : Around} {H : AH} {σ : Lo} {Qn : Lo → AH → Prop} {Qr : V → AH → Prop} {n : Nat} {q : Str} {code : Value} {L nr fr fo : Addr} {way : Str} {i j : Nat} {isin : Bool} {near far : List Int}
include ok
theorem mg0 (rm : Rm A (n + 19)) (R : MS nr fr fo way i j isin σ) (g2 : H nr = some (.list (near.map .int))) (g3 : H fr = some (.list (far.map .int))) (hn : near.Pairwise (· < ·)) (hf : far.Pairwise (· < ·)) (e : i < near.length ∨ j < far.length)
    (h : ∀ b, b ∈ near.drop i ++ far.drop j → (∀ w ∈ near.drop i ++ far.drop j, b ≤ w) → Qn (Lo.put σ "bound" (.int b)) H) :
    Ex1 (Cx.of G A (n + 19) rm (fnScope (top 8)) rfl q code a.merged L) (wst 0) σ H Qn Qr := by
  obtain ⟨s1, s2, s3, s4, s5, s6, s7⟩ := R
  refine Ex1.if_ ?_
  refine Et.mono (Q := fun b H2 => H2 = H ∧ (b = true → ∃ x, near[i]? = some x ∧ ∀ y, far[j]? = some y → x ≤ y) ∧ (b = false → ∃ y, far[j]? = some y ∧ ∀ x, near[i]? = some x → y ≤ x)) ?_ ?_
  · repeat walk_at "ev"
    rw [List.length_map]
    refine ⟨fun e2 => ?_, fun e2 => ?_⟩
    · have e2 : far.length ≤ j := by simpa using e2
      refine ⟨rfl, fun _ => ?_, fun e => (by cases e)⟩
      have hi : i < near.length := by omega
      exact ⟨_, List.getElem?_eq_getElem hi, fun y hy => by have := (List.getElem?_eq_some_iff.mp hy).1; omega⟩
    · have e2 : j < far.length := by simpa using e2
      repeat walk_at "ev"
      rw [List.length_map]
      refine ⟨fun e3 => ?_, fun e3 => ?_⟩
      · have e3 : near.length ≤ i := by simpa using e3
        refine ⟨rfl, fun e => (by cases e), fun _ => ?_⟩
        exact ⟨_, List.getElem?_eq_getElem e2, fun y hy => by have := (List.getElem?_eq_some_iff.mp hy).1; omega⟩
      · have e3 : i < near.length := by simpa using e3
        repeat walk_at "ev"
        refine Do.item g2 (Int.natCast_nonneg _) (item_get (List.getElem?_eq_getElem e3)) ?_
        repeat walk_at "ev"
        refine Do.item g3 (Int.natCast_nonneg _) (item_get (List.getElem?_eq_getElem e2)) ?_
        repeat walk_at "ev"
        refine ⟨fun e => ?_, fun e => ?_⟩
        · have e := of_decide_eq_true e
          exact ⟨_, List.getElem?_eq_getElem e3, fun y hy => by rw [List.getElem?_eq_getElem e2] at hy; cases hy; exact e⟩
        · have e := of_decide_eq_false e
          exact ⟨_, List.getElem?_eq_getElem e2, fun y hy => by rw [List.getElem?_eq_getElem e3] at hy; cases hy; exact Int.le_of_lt (Int.not_le.mp e)⟩
  · rintro b H2 ⟨rfl, q1, q2⟩
    refine ⟨fun e => ?_, fun e => ?_⟩
    · obtain ⟨x, hx, hx2⟩ := q1 e
      repeat walk_at "ev"
      refine Do.item g2 (Int.natCast_nonneg _) (item_get hx) ?_
      repeat walk_at "ev"
      exact h x (List.mem_append_left _ (dropMin hn hx).1) (minBoth hn hf hx hx2)
    · obtain ⟨x, hx, hx2⟩ := q2 e
      repeat walk_at "ev"
      refine Do.item g3 (Int.natCast_nonneg _) (item_get hx) ?_
      repeat walk_at "ev"
      refine h x (List.mem_append_right _ (dropMin hf hx).1) fun w hw => minBoth hf hn hx hx2 w ?_
      rcases List.mem_append.mp hw with q | q
      · exact List.mem_append_right _ q
      · exact List.mem_append_left _ q
theorem mg1 (rm : Rm A (n + 19)) (R : MS nr fr fo way i j isin σ) (g2 : H nr = some (.list (near.map .int))) {b : Int} (s8 : σ "bound" = some (.int b))
    (h : ∀ σ', MS nr fr fo way (if near[i]? = some b then i + 1 else i) j isin σ' → σ' "bound" = some (.int b) → Qn σ' H) :
    Ex1 (Cx.of G A (n + 19) rm (fnScope (top 8)) rfl q code a.merged L) (wst 1) σ H Qn Qr := by
  obtain ⟨s1, s2, s3, s4, s5, s6, s7⟩ := id R
  refine Ex1.if_ ?_
  refine Et.mono (Q := fun c H3 => H3 = H ∧ c = decide (near[i]? = some b)) ?_ ?_
  · repeat walk_at "ev"
    rw [List.length_map]
    refine ⟨fun e3 => ?_, fun e3 => ?_⟩
    · have e3 : near.length ≤ i := by simpa using e3
      simp [e3]
    · have e3 : i < near.length := by simpa using e3
      repeat walk_at "ev"
      refine Do.item g2 (Int.natCast_nonneg _) (item_get (List.getElem?_eq_getElem e3)) ?_
      repeat walk_at "ev"
      rw [List.getElem?_eq_getElem e3, Bool.eq_iff_iff]; simp
  · rintro c H3 ⟨rfl, rfl⟩
    refine ⟨fun e => ?_, fun e => ?_⟩
    · rw [if_pos (of_decide_eq_true e)] at h
      refine Ex.cons ?_
      refine Ex1.aug (r := .int i) (by walk_at "own") (fun p => Ev.local (by kernel_rfl) s5 ⟨rfl, rfl⟩) ?_
      repeat walk_at "ev"
      exact h _ ⟨by walk_at "lo", by walk_at "lo", by walk_at "lo", by walk_at "lo", Lo.put_self _ _ _, by walk_at "lo", by walk_at "lo"⟩ (by walk_at "lo")
    · rw [if_neg (of_decide_eq_false e)] at h
      repeat walk_at "ev"
      exact h _ R s8
theorem mg2 (rm : Rm A (n + 19)) (R : MS nr fr fo way i j isin σ) (g3 : H fr = some (.list (far.map .int))) {b : Int} (s8 : σ "bound" = some (.int b))
    (h : ∀ σ', MS nr fr fo way i (if far[j]? = some b then j + 1 else j) isin σ' → σ' "bound" = some (.int b) → Qn σ' H) :
    Ex1 (Cx.of G A (n + 19) rm (fnScope (top 8)) rfl q code a.merged L) (wst 2) σ H Qn Qr := by
  obtain ⟨s1, s2, s3, s4, s5, s6, s7⟩ := id R
  refine Ex1.if_ ?_
  refine Et.mono (Q := fun c H3 => H3 = H ∧ c = decide (far[j]? = some b)) ?_ ?_
  · repeat walk_at "ev"
    rw [List.length_map]
    refine ⟨fun e3 => ?_, fun e3 => ?_⟩
    · have e3 : far.length ≤ j := by simpa using e3
      simp [e3]
    · have e3 : j < far.length := by simpa using e3
      repeat walk_at "ev"
      refine Do.item g3 (Int.natCast_nonneg _) (item_get (List.getElem?_eq_getElem e3)) ?_
      repeat walk_at "ev"
      rw [List.getElem?_eq_getElem e3, Bool.eq_iff_iff]; simp
  · rintro c H3 ⟨rfl, rfl⟩
    refine ⟨fun e => ?_, fun e => ?_⟩
    · rw [if_pos (of_decide_eq_true e)] at h
      refine Ex.cons ?_
      refine Ex1.aug (r := .int j) (by walk_at "own") (fun p => Ev.local (by kernel_rfl) s6 ⟨rfl, rfl⟩) ?_
      repeat walk_at "ev"
      exact h _ ⟨by walk_at "lo", by walk_at "lo", by walk_at "lo", by walk_at "lo", by walk_at "lo", Lo.put_self _ _ _, by walk_at "lo"⟩ (by walk_at "lo")
    · rw [if_neg (of_decide_eq_false e)] at h
      repeat walk_at "ev"
      exact h _ R s8
theorem mg3 (rm : Rm A (n + 19)) (R : MS nr fr fo way i j isin σ) {b : Int} (s8 : σ "bound" = some (.int b))
    (h : ∀ σ', MS nr fr fo way i j isin σ' → σ' "bound" = some (.int b) → σ' "is_next" = some (.bool (wantedOf way (i % 2 == 1) (j % 2 == 1))) → Qn σ' H) :
    Ex1 (Cx.of G A (n + 19) rm (fnScope (top 8)) rfl q code a.merged L) (wst 3) σ H Qn Qr := by
  obtain ⟨s1, s2, s3, s4, s5, s6, s7⟩ := R
  refine Ex1.assign (by walk_at "own") ?_
  repeat walk_at "ev"
  rw [mod_two, mod_two]
  refine (c_wanted ok (rm.to (n := n) (k := 1)) ?_).cl
  exact h _ ⟨by walk_at "lo", by walk_at "lo", by walk_at "lo", by walk_at "lo", by walk_at "lo", by walk_at "lo", by walk_at "lo"⟩ (by walk_at "lo") (Lo.put_self _ _ _)
theorem mg4 (rm : Rm A (n + 19)) (R : MS nr fr fo way i j isin σ) {b : Int} (s8 : σ "bound" = some (.int b)) {nxt : Bool} (s9 : σ "is_next" = some (.bool nxt)) {f : List Int} (g1 : H fo = some (.list (f.map .int))) (hz : f.length ≤ 2000)
    (h : ∀ σ' H', MS nr fr fo way i j nxt σ' → H' fo = some (.list ((if nxt != isin then f ++ [b] else f).map .int)) → ExtB fo H H' → Qn σ' H') :
    Ex1 (Cx.of G A (n + 19) rm (fnScope (top 8)) rfl q code a.merged L) (wst 4) σ H Qn Qr := by
  obtain ⟨s1, s2, s3, s4, s5, s6, s7⟩ := id R
  refine Ex1.if_ ?_
  repeat walk_at "ev"
  refine ⟨fun e => ?_, fun e => ?_⟩
  · rw [if_pos e] at h
    repeat walk_at "ev"
    refine Cl.append g1 (by rw [List.length_map]; omega) ?_
    repeat walk_at "ev"
    refine h _ _ ⟨by walk_at "lo", by walk_at "lo", by walk_at "lo", by walk_at "lo", by walk_at "lo", by walk_at "lo", Lo.put_self _ _ _⟩ ?_ .put
    rw [AH.put_self, List.map_append]; rfl
  · rw [if_neg (by rw [e]; exact Bool.false_ne_true)] at h
    have e : nxt = isin := by simpa using e
    subst e
    exact Ex.nil (h _ _ R g1 fun _ _ _ e => e)
end
section
variable {G : Gl} {a : Ad} (ok : Ok G a) {A : Around} {H : AH} {Q : V → AH → Prop} {n : Nat}
include ok
theorem c_merged {nr fr : Addr} {near far : List Int} {way : Str} (rm : Rm A (n + 20)) (h1 : H nr = some (.list (near.map .int))) (h2 : H fr = some (.list (far.map .int))) (hn : near.Pairwise (· < ·)) (hf : far.Pairwise (· < ·))
    (z1 : near.length ≤ 1000) (z2 : far.length ≤ 1000)
    (h : ∀ b l H', (∀ S T R : Int → Prop, Bd near S → Bd far T → (∀ k (p q : Bool), (p = true ↔ S k) → (q = true ↔ T k) → (wantedOf way p q = true ↔ R k)) → Bd l R) → l.length ≤ near.length + far.length → H b = none → Ext H H' → H' b = some (.list (l.map .int)) → Q (.ref b) H') :
    Clc G A (.ref a.merged) [.ref nr, .ref fr, .str way] H Q := by
  refine Clc.enter rm ok.merged rfl (by kernel_rfl) (by kernel_rfl) (by kernel_rfl) (by decide) fun env q code L => ?_
  refine Ex.cons ?_
  refine Ex1.assignT ?_
  repeat walk_at "ev"
  intro fo hfo
  repeat walk_at "ev"
  refine ⟨_, _, rfl, rfl, bo4 (by walk_at "own") (by walk_at "own") (by walk_at "own") (by walk_at "own"), ?_⟩
  show Ex _ _ (Lo.put (Lo.put (Lo.put (Lo.put _ "found" _) "at" _) "beside" _) "is_in" _) _ _ _
  refine Ex.cons ?_
  refine Ex1.while_ (MLoop nr fr fo way near far H) (near.length + far.length)
    ⟨0, 0, false, [], ⟨by walk_at "lo", by walk_at "lo", by walk_at "lo", by walk_at "lo", by walk_at "lo", by walk_at "lo", by walk_at "lo"⟩, AH.put_self _ _ _, (Ext.put hfo).b, .zero _ _ _, by simp, by omega⟩ fun m σ' H' z => ?_
  obtain ⟨i, j, isin, f, ms, g1, gE, M, gl, em⟩ := z
  have nn : nr ≠ fo := fun q => by subst q; rw [h1] at hfo; cases hfo
  have nf : fr ≠ fo := fun q => by subst q; rw [h2] at hfo; cases hfo
  have g2 := gE _ _ nn h1
  have g3 := gE _ _ nf h2
  have ha := M.ha
  have hb := M.hb
  refine Et.mono (Q := fun b H'' => H'' = H' ∧ b = (decide (i < near.length) || decide (j < far.length))) ?_ ?_
  · obtain ⟨s1, s2, s3, s4, s5, s6, s7⟩ := ms
    repeat walk_at "ev"
    rw [List.length_map]
    refine ⟨fun e => ?_, fun e => ?_⟩
    · have e : i < near.length := by simpa using e
      simp [e]
    · have e : ¬ i < near.length := by simpa using e
      repeat walk_at "ev"
      rw [List.length_map]
      simp [e]
  rintro b H'' ⟨rfl, rfl⟩
  refine ⟨fun e => ?_, fun e => ?_⟩
  rotate_left
  · have e : ¬ i < near.length ∧ ¬ j < far.length := by simpa using e
    have s4 := ms.s4
    repeat walk_at "ev"
    exact h fo f H'' (fun S T R a b c => M.done (Nat.le_of_not_lt e.1) (Nat.le_of_not_lt e.2) a b c) (by omega) hfo (gE.new hfo) g1
  have e : i < near.length ∨ j < far.length := by simpa using e
  have lt : f.length ≤ 2000 := by omega
  refine Ex.cons (mg0 ok (rm.deeper env) ms g2 g3 hn hf e fun b hb1 hb2 => ?_)
  have m0 : MS nr fr fo way i j isin (Lo.put σ' "bound" (.int b)) := ⟨(Lo.put_ne _ _ (by decide)).trans ms.s1, (Lo.put_ne _ _ (by decide)).trans ms.s2, (Lo.put_ne _ _ (by decide)).trans ms.s3, (Lo.put_ne _ _ (by decide)).trans ms.s4, (Lo.put_ne _ _ (by decide)).trans ms.s5, (Lo.put_ne _ _ (by decide)).trans ms.s6, (Lo.put_ne _ _ (by decide)).trans ms.s7⟩
  obtain ⟨M', lt'⟩ := M.step hn hf hb1 hb2 rfl rfl rfl
  refine Ex.cons (mg1 ok (rm.deeper env) m0 g2 (Lo.put_self _ _ _) fun σ1 m1 t1 => ?_)
  refine Ex.cons (mg2 ok (rm.deeper env) m1 g3 t1 fun σ2 m2 t2 => ?_)
  refine Ex.cons (mg3 ok (rm.deeper env) m2 t2 fun σ3 m3 t3 n3 => ?_)
  refine Ex.cons (mg4 ok (rm.deeper env) m3 t3 n3 g1 lt fun σ4 H4 m4 t4 E4 => ?_)
  refine Ex.nil ⟨_, by rw [em]; exact lt', _, _, _, _, m4, t4, gE.trans E4, M', ?_, rfl⟩
  have ha' := M'.ha
  have hb' := M'.hb
  clear M M' m0 m1 m2 m3 m4 t1 t2 t3 t4 n3 g1 g2 g3 gE E4 hn hf hb1 hb2 h h1 h2 hfo nn nf rm ms
  have := if_len (wantedOf way ((if near[i]? = some b then i + 1 else i) % 2 == 1) ((if far[j]? = some b then j + 1 else j) % 2 == 1) != isin) f b
  omega
end
/-! ## sets of codes -/
noncomputable def fB (b : Addr) : Str → Option V := attPut (fun _ => none) "bounds" (.ref b)
noncomputable def CSet (a : Ad) (H : AH) (x : Addr) (l : List Int) : Prop := ∃ d b, H x = some (.inst a.CodeSet d) ∧ H d = some (.att (fB b) 1) ∧ H b = some (.list (l.map .int))
theorem CSet.ext {a H H' x l} (h : CSet a H x l) (e : Ext H H') : CSet a H' x l := by
  obtain ⟨d, b, h1, h2, h3⟩ := h
  exact ⟨d, b, e _ _ h1, e _ _ h2, e _ _ h3⟩
theorem attPut_twice (f : Str → Option V) (x : Str) (r r' : V) : attPut (attPut f x r) x r' = attPut f x r' := by
  funext y; unfold attPut; split <;> rfl
section
variable {G : Gl} {a : Ad} (ok : Ok G a) {A : Around} {H : AH} {Q : V → AH → Prop} {n : Nat}
include ok
theorem cs_make {b : Addr} {l : List Int} (rm : Rm A (n + 3)) (hb : H b = some (.list (l.map .int))) (h : ∀ x H', CSet a H' x l → Ext H H' → H x = none → Q (.ref x) H') : Cl G A (.ref a.CodeSet) [.ref b] H Q := by
  refine Cl.make (n := n + 2) rm ok.CS fun A' x d rm' hx hd hne => ?_
  refine Clc.enter (n := n + 1) rm' ok.cs0 rfl (by kernel_rfl) (by kernel_rfl) (by kernel_rfl) (by decide) fun env q code L => ?_
  have h1 : (AH.put (AH.put H d (.att (fun _ => none) 0)) x (.inst a.CodeSet d)) x = some (.inst a.CodeSet d) := AH.put_self _ _ _
  have h2 : (AH.put (AH.put H d (.att (fun _ => none) 0)) x (.inst a.CodeSet d)) d = some (.att (fun _ => none) 0) := by rw [AH.put_ne _ _ hne.symm, AH.put_self]
  have E : Ext H (AH.put (AH.put H d (.att (fun _ => none) 0)) x (.inst a.CodeSet d)) := (Ext.put hd).put' hx
  have hdb : d ≠ b := fun q => by subst q; rw [hb] at hd; cases hd
  generalize (AH.put (AH.put H d (.att (fun _ => none) 0)) x (.inst a.CodeSet d)) = H1 at *
  have hb1 := E _ _ hb
  refine Ex.cons ?_
  refine Ex1.setattr ?_
  repeat walk_at "ev"
  refine Do.isNone rfl ?_
  repeat walk_at "ev"
  refine ⟨fun e => (by cases e), fun _ => ?_⟩
  repeat walk_at "ev"
  refine ⟨x, _, d, _, _, _, _, _, rfl, ok.CS, h1, h2, by decide, by decide, ?_⟩
  repeat walk_at "ev"
  refine h x _ ⟨d, b, ?_, ?_, ?_⟩ (ExtB.new (E.b.trans .put) hd) hx
  · rw [AH.put_ne _ _ hne]; exact h1
  · rw [AH.put_self]; rfl
  · rw [AH.put_ne _ _ hdb.symm]; exact hb1

theorem cs_of {r : Addr} {ps : List (Int × Int)} (rm : Rm A (n + 24)) (hr : H r = some (.list (ps.map pv))) (hz : ps.length < 64)
    (h : ∀ x l H', Bd l (fun k => ∃ p ∈ ps, p.1 ≤ k ∧ k ≤ p.2) → l.length ≤ 2 * ps.length → CSet a H' x l → Ext H H' → H x = none → Q (.ref x) H') : Clc G A (.ref (a.cs 1)) [.ref r] H Q := by
  refine Clc.enter rm ok.cs1 rfl (by kernel_rfl) (by kernel_rfl) (by kernel_rfl) (by decide) fun env q code L => ?_
  refine Ex.cons ?_
  repeat walk_at "ev"
  refine (c_bounds ok ((rm.deeper env).to (n := n) (k := 20)) hr hz fun b l H1 bd hl hb E g => ?_).cl
  repeat walk_at "ev"
  exact cs_make ok ((rm.deeper env).to (n := n) (k := 3)) g fun x H2 cs E2 hx => h x l H2 bd hl cs (E.trans E2) (E.none hx)

theorem c_has_ {x : Addr} {l : List Int} {k : Int} (rm : Rm A (n + 3)) (cs : CSet a H x l) (hs : l.Pairwise (· < ·)) (h : Q (.bool (cnt l k % 2 == 1)) H) : Clc G A (.ref (a.cs 2)) [.ref x, .int k] H Q := by
  obtain ⟨d, b, h1, h2, h3⟩ := cs
  refine Clc.enter rm ok.cs2 rfl (by kernel_rfl) (by kernel_rfl) (by kernel_rfl) (by decide) fun env q code L => ?_
  refine Ex.cons ?_
  repeat walk_at "ev"
  refine c_place ok ((rm.deeper env).to (n := n) (k := 1)) h3 hs ?_
  repeat walk_at "ev"
  have : ((placeOf l k).fmod 2 == 0) = (cnt l k % 2 == 1) := by
    unfold placeOf
    rw [Int.fmod_eq_emod_of_nonneg _ (by omega), Bool.eq_iff_iff, beq_iff_eq, beq_iff_eq]
    show _ ↔ cnt l k % 2 = 1
    unfold cnt
    omega
  rw [this]
  exact h
end
noncomputable def rangesOf (l : List Int) : List (Int × Int) := (List.range (l.length / 2)).map fun j => (l.getD (2 * j) 0, l.getD (2 * j + 1) 0 - 1)
theorem small_two {b : Int} (h0 : 0 ≤ b) (h1 : b ≤ 2 ^ 30) : Builtin.Range.small 0 b 2 = true := by
  unfold Builtin.Range.small Builtin.Range.rangeSize
  simp only [Builtin.Range.rangeFitsLong, Bool.and_eq_true, Bool.or_eq_true, decide_eq_true_eq, beq_iff_eq, show (2 : Int) > 0 by decide, if_true]
  split <;> omega
theorem rangeSize_two {b : Nat} (h : b % 2 = 0) : Builtin.Range.rangeSize 0 b 2 = (b / 2 : Nat) := by
  unfold Builtin.Range.rangeSize
  simp only [show (2 : Int) > 0 by decide, if_true]
  split <;> omega
section
variable {G : Gl} {a : Ad} (ok : Ok G a) {A : Around} {H : AH} {Q : V → AH → Prop} {n : Nat}
include ok
local macro_rules | `(tactic| walk_at "ev") => `(tactic| with_reducible refine Ev.cell (x := Str.ofString "self") (by kernel_rfl) (by walk_at "lo") ?_)
theorem cs_ranges {x : Addr} {l : List Int} (rm : Rm A (n + 3)) (cs : CSet a H x l) (he : l.length % 2 = 0) (hz : l.length ≤ 1000)
    (h : ∀ b H', H b = none → Ext H H' → H' b = some (.list ((rangesOf l).map pv)) → Q (.ref b) H') : Clc G A (.ref (a.cs 3)) [.ref x] H Q := by
  obtain ⟨d, b, h1, h2, h3⟩ := cs
  refine Clc.enter rm ok.cs3 rfl (by kernel_rfl) (by kernel_rfl) (by kernel_rfl) (by decide) fun env q code L => ?_
  refine Ex.cons ?_
  refine Ex1.ret ?_
  refine Ev.comp (CompOk.of (by kernel_rfl)) ?_
  refine Co.pure ?_
  refine Ei.range ?_
  repeat walk_at "ev"
  refine Cl.range3 (by decide) (by decide) fun r t u v hr => ?_
  rw [List.length_map]
  refine ⟨r, H, 0, _, 2, t, u, v, l.length / 2, rfl, rfl, hr, small_two (by omega) (by omega), rangeSize_two he,
    fun v => match v with | .int i => some (pv (l.getD i.toNat 0, l.getD (i.toNat + 1) 0 - 1)) | _ => none, trivial, by simp [rangeV]; omega, fun L v hv => ?_, ?_⟩
  · obtain ⟨j, hj, rfl⟩ := List.mem_map.mp hv
    have hj : j < l.length / 2 := List.mem_range.mp hj
    have e0 : (0 : Int) + (j : Int) * 2 = ((2 * j : Nat) : Int) := by omega
    rw [e0]
    refine ⟨[("at", .int ((2 * j : Nat) : Int))], rfl, bl1 rfl, ?_⟩
    show _ ∧ _
    refine ⟨rfl, fun _ => ?_, fun e => (by cases e)⟩
    repeat walk_at "ev"
    refine Do.item h3 (by omega) (item_get (List.getElem?_eq_getElem (by omega : 2 * j < l.length))) ?_
    repeat walk_at "ev"
    have e1 : ((2 * j : Nat) : Int) + 1 = ((2 * j + 1 : Nat) : Int) := by omega
    rw [e1]
    refine Do.item h3 (by omega) (item_get (List.getElem?_eq_getElem (by omega : 2 * j + 1 < l.length))) ?_
    repeat walk_at "ev"
    show some _ = some _
    rw [Int.toNat_natCast]
    simp [pv, List.getD_eq_getElem?_getD, List.getElem?_eq_getElem (by omega : 2 * j < l.length), List.getElem?_eq_getElem (by omega : 2 * j + 1 < l.length)]
  · have : ((rangeV (l.length / 2) 0 2).filterMap fun v => match v with | .int i => some (pv (l.getD i.toNat 0, l.getD (i.toNat + 1) 0 - 1)) | _ => none) = (rangesOf l).map pv := by
      unfold rangeV rangesOf
      rw [List.filterMap_map, List.map_map]
      have key : ∀ (g : Nat → Option V) (g' : Nat → V) (m : List Nat), (∀ j, g j = some (g' j)) → m.filterMap g = m.map g' := fun g g' m hg => by
        induction m with
        | nil => rfl
        | cons j m ih => rw [List.filterMap_cons, hg j, List.map_cons, ih]
      refine key _ _ _ fun j => ?_
      have e0 : (0 : Int) + (j : Int) * 2 = ((2 * j : Nat) : Int) := by omega
      show (match V.int (0 + (j : Int) * 2) with | .int i => some (pv (l.getD i.toNat 0, l.getD (i.toNat + 1) 0 - 1)) | _ => none) = _
      rw [e0]
      simp only [Int.toNat_natCast]
      rfl
    rw [this]
    intro b2 hb2
    exact h b2 _ hb2 (Ext.put hb2) (AH.put_self _ _ _)
end
theorem bd_all : Bd [0, 1114112] fun k => 0 ≤ k ∧ k < 1114112 := (Bd.nil.snoc2 (by simp) (by decide)).congr fun k => by simp
theorem wanted_union (p q : Bool) : wantedOf "union" p q = (p || q) := by unfold wantedOf; rw [if_pos rfl]
theorem wanted_both (p q : Bool) : wantedOf "both" p q = (p && q) := by unfold wantedOf; rw [if_neg w1, if_pos rfl]
theorem wanted_without (p q : Bool) : wantedOf "without" p q = (p && !q) := by unfold wantedOf; rw [if_neg w2, if_neg w3, if_pos rfl]
section
variable {G : Gl} {a : Ad} (ok : Ok G a) {A : Around} {H : AH} {Q : V → AH → Prop} {n : Nat}
include ok
theorem cs_size {x : Addr} {l : List Int} (rm : Rm A (n + 10)) (cs : CSet a H x l) (he : l.length % 2 = 0) (hz : l.length ≤ 1000)
    (h : ∀ H', Ext H H' → Q (.int ((rangesOf l).map fun p => p.2 + 1 - p.1).sum) H') : Clc G A (.ref (a.cs 4)) [.ref x] H Q := by
  have cs0 := cs
  obtain ⟨d, b, h1, h2, h3⟩ := cs
  refine Clc.enter rm ok.cs4 rfl (by kernel_rfl) (by kernel_rfl) (by kernel_rfl) (by decide) fun env q code L => ?_
  refine Ex.cons ?_
  repeat walk_at "ev"
  refine Ev.comp (CompOk.of (by kernel_rfl)) ?_
  refine Co.pure ?_
  refine Ei.list ?_
  repeat walk_at "ev"
  refine ⟨_, _, _, Gm.inst ok.CS h1 h2 rfl rfl, ok.cs3.kp, ?_⟩
  refine (cs_ranges ok ((rm.deeper env).to (n := n) (k := 3)) cs0 he hz fun r H1 hr E hl => ?_).cl
  refine ⟨r, (rangesOf l).map pv, rfl, hl, fun v => match v with | .tup [.int x, .int y] => some (.int (y + 1 - x)) | _ => none, hl, by simp [rangesOf]; omega, fun L v hv => ?_, ?_⟩
  · obtain ⟨p, hp, rfl⟩ := List.mem_map.mp hv
    refine ⟨[("first", .int p.1), ("last", .int p.2)], rfl, bl2 rfl rfl, ?_⟩
    show _ ∧ _
    refine ⟨rfl, fun _ => ?_, fun e => (by cases e)⟩
    repeat walk_at "ev"
    rfl
  · have key : ∀ m : List (Int × Int), (m.map pv).filterMap (fun v => match v with | .tup [.int x, .int y] => some (V.int (y + 1 - x)) | _ => none) = (m.map fun p => p.2 + 1 - p.1).map .int := fun m => by
      induction m with
      | nil => rfl
      | cons p m ih => rw [List.map_cons, List.filterMap_cons, ih]; rfl
    rw [key]
    intro c hc
    repeat walk_at "ev"
    exact Cl.sum ((rm.deeper env).le (m := 0) (by omega)) (AH.put_self _ _ _) (h _ (E.put' (E.none hc)))

theorem cs_union {x y : Addr} {l m : List Int} {S T : Int → Prop} (rm : Rm A (n + 24)) (cx : CSet a H x l) (cy : CSet a H y m) (hl : Bd l S) (hm : Bd m T) (z1 : l.length ≤ 400) (z2 : m.length ≤ 400)
    (h : ∀ z k H', Bd k (fun k => S k ∨ T k) → k.length ≤ l.length + m.length → CSet a H' z k → Ext H H' → H z = none → Q (.ref z) H') : Clc G A (.ref (a.cs 5)) [.ref x, .ref y] H Q := by
  obtain ⟨d, b, h1, h2, h3⟩ := cx
  obtain ⟨d', b', h1', h2', h3'⟩ := cy
  refine Clc.enter rm ok.cs5 rfl (by kernel_rfl) (by kernel_rfl) (by kernel_rfl) (by decide) fun env q code L => ?_
  refine Ex.cons ?_
  repeat walk_at "ev"
  refine (c_merged ok ((rm.deeper env).to (n := n) (k := 20)) h3 h3' hl.1 hm.1 (by omega) (by omega) fun r k H1 hk hz hr E hg => ?_).cl
  repeat walk_at "ev"
  refine cs_make ok ((rm.deeper env).to (n := n) (k := 3)) hg fun z H2 cz E2 hz2 => h z k H2 (hk S T _ hl hm fun k p q hp hq => ?_) hz cz (E.trans E2) (E.none hz2)
  rw [wanted_union, ← hp, ← hq]
  simp

theorem cs_both {x y : Addr} {l m : List Int} {S T : Int → Prop} (rm : Rm A (n + 24)) (cx : CSet a H x l) (cy : CSet a H y m) (hl : Bd l S) (hm : Bd m T) (z1 : l.length ≤ 400) (z2 : m.length ≤ 400)
    (h : ∀ z k H', Bd k (fun k => S k ∧ T k) → k.length ≤ l.length + m.length → CSet a H' z k → Ext H H' → H z = none → Q (.ref z) H') : Clc G A (.ref (a.cs 6)) [.ref x, .ref y] H Q := by
  obtain ⟨d, b, h1, h2, h3⟩ := cx
  obtain ⟨d', b', h1', h2', h3'⟩ := cy
  refine Clc.enter rm ok.cs6 rfl (by kernel_rfl) (by kernel_rfl) (by kernel_rfl) (by decide) fun env q code L => ?_
  refine Ex.cons ?_
  repeat walk_at "ev"
  refine (c_merged ok ((rm.deeper env).to (n := n) (k := 20)) h3 h3' hl.1 hm.1 (by omega) (by omega) fun r k H1 hk hz hr E hg => ?_).cl
  repeat walk_at "ev"
  refine cs_make ok ((rm.deeper env).to (n := n) (k := 3)) hg fun z H2 cz E2 hz2 => h z k H2 (hk S T _ hl hm fun k p q hp hq => ?_) hz cz (E.trans E2) (E.none hz2)
  rw [wanted_both, ← hp, ← hq]
  simp

theorem cs_without {x y : Addr} {l m : List Int} {S T : Int → Prop} (rm : Rm A (n + 24)) (cx : CSet a H x l) (cy : CSet a H y m) (hl : Bd l S) (hm : Bd m T) (z1 : l.length ≤ 400) (z2 : m.length ≤ 400)
    (h : ∀ z k H', Bd k (fun k => S k ∧ ¬ T k) → k.length ≤ l.length + m.length → CSet a H' z k → Ext H H' → H z = none → Q (.ref z) H') : Clc G A (.ref (a.cs 7)) [.ref x, .ref y] H Q := by
  obtain ⟨d, b, h1, h2, h3⟩ := cx
  obtain ⟨d', b', h1', h2', h3'⟩ := cy
  refine Clc.enter rm ok.cs7 rfl (by kernel_rfl) (by kernel_rfl) (by kernel_rfl) (by decide) fun env q code L => ?_
  refine Ex.cons ?_
  repeat walk_at "ev"
  refine (c_merged ok ((rm.deeper env).to (n := n) (k := 20)) h3 h3' hl.1 hm.1 (by omega) (by omega) fun r k H1 hk hz hr E hg => ?_).cl
  repeat walk_at "ev"
  refine cs_make ok ((rm.deeper env).to (n := n) (k := 3)) hg fun z H2 cz E2 hz2 => h z k H2 (hk S T _ hl hm fun k p q hp hq => ?_) hz cz (E.trans E2) (E.none hz2)
  rw [wanted_without, ← hp, ← hq]
  simp

theorem cs_opposite {x : Addr} {l : List Int} {S : Int → Prop} (rm : Rm A (n + 24)) (cx : CSet a H x l) (hl : Bd l S) (z1 : l.length ≤ 400)
    (h : ∀ z k H', Bd k (fun k => (0 ≤ k ∧ k < 1114112) ∧ ¬ S k) → k.length ≤ l.length + 2 → CSet a H' z k → Ext H H' → H z = none → Q (.ref z) H') : Clc G A (.ref (a.cs 8)) [.ref x] H Q := by
  obtain ⟨d, b, h1, h2, h3⟩ := cx
  refine Clc.enter rm ok.cs8 rfl (by kernel_rfl) (by kernel_rfl) (by kernel_rfl) (by decide) fun env q code L => ?_
  refine Ex.cons ?_
  repeat walk_at "ev"
  intro c hc
  have E0 := Ext.put (o := .list [.int 0, .int 1114112]) hc
  have h1 := E0 _ _ h1
  have h2 := E0 _ _ h2
  have h3 := E0 _ _ h3
  have hcl : (AH.put H c (.list [.int 0, .int 1114112])) c = some (.list (([0, 1114112] : List Int).map .int)) := AH.put_self _ _ _
  generalize (AH.put H c (.list [.int 0, .int 1114112])) = H0 at *
  repeat walk_at "ev"
  refine (c_merged ok ((rm.deeper env).to (n := n) (k := 20)) hcl h3 bd_all.1 hl.1 (by simp) (by omega) fun r k H1 hk hz hr E hg => ?_).cl
  repeat walk_at "ev"
  refine cs_make ok ((rm.deeper env).to (n := n) (k := 3)) hg fun z H2 cz E2 hz2 => h z k H2 (hk _ S _ bd_all hl fun k p q hp hq => ?_) (by simp at hz; omega) cz (E0.trans (E.trans E2)) (E0.none (E.none hz2))
  rw [wanted_without, ← hp, ← hq]
  simp

theorem cs_add {x d b : Addr} {l : List Int} {S : Int → Prop} {first last : Int} (rm : Rm A (n + 24)) (h1 : H x = some (.inst a.CodeSet d)) (h2 : H d = some (.att (fB b) 1)) (h3 : H b = some (.list (l.map .int))) (hl : Bd l S) (z1 : l.length ≤ 400)
    (h : ∀ k H', Bd k (fun k => S k ∨ (first ≤ k ∧ k ≤ last)) → k.length ≤ l.length + 2 → CSet a H' x k → ExtB d H H' → Q .none H') : Clc G A (.ref (a.cs 9)) [.ref x, .int first, .int last] H Q := by
  refine Clc.enter rm ok.cs9 rfl (by kernel_rfl) (by kernel_rfl) (by kernel_rfl) (by decide) fun env q code L => ?_
  refine Ex.cons ?_
  refine Ex1.setattr ?_
  repeat walk_at "ev"
  intro c hc
  have E0 := Ext.put (o := .list [.tup [.int first, .int last]]) hc
  have hcl : (AH.put H c (.list [.tup [.int first, .int last]])) c = some (.list ([(first, last)].map pv)) := AH.put_self _ _ _
  generalize (AH.put H c (.list [.tup [.int first, .int last]])) = H0 at *
  repeat walk_at "ev"
  refine (c_bounds ok ((rm.deeper env).to (n := n) (k := 20)) hcl (by simp) fun r m H1 bm hm hr E1 g1 => ?_).cl
  repeat walk_at "ev"
  have E01 := E0.trans E1
  refine (c_merged ok ((rm.deeper env).to (n := n) (k := 20)) (E01 _ _ h3) g1 hl.1 bm.1 (by omega) (by simp at hm; omega) fun r k H2 hk hz hr2 E2 hg => ?_).cl
  repeat walk_at "ev"
  have E02 := E01.trans E2
  refine ⟨x, _, d, _, _, _, _, _, rfl, ok.CS, E02 _ _ h1, E02 _ _ h2, by decide, by decide, ?_⟩
  repeat walk_at "ev"
  have nxd : x ≠ d := fun q => by subst q; rw [h1] at h2; cases h2
  have nrd : r ≠ d := fun q => by
    subst q
    rw [E01 _ _ h2] at hr2; cases hr2
  refine h k _ (hk S _ _ hl bm fun k p q hp hq => ?_) (by simp at hm; omega) ⟨d, r, ?_, ?_, ?_⟩ (E02.b.trans .put)
  · rw [wanted_union, Bool.or_eq_true, hp, hq]; simp
  · rw [AH.put_ne _ _ nxd]; exact E02 _ _ h1
  · rw [AH.put_self, fB, attPut_twice]; rfl
  · rw [AH.put_ne _ _ nrd]; exact hg

theorem cs_equals {x y : Addr} {l m : List Int} (rm : Rm A (n + 10)) (cx : CSet a H x l) (cy : CSet a H y m) (h : Q (.bool (decide (l = m))) H) : Clc G A (.ref (a.cs 10)) [.ref x, .ref y] H Q := by
  obtain ⟨d, b, h1, h2, h3⟩ := cx
  obtain ⟨d', b', h1', h2', h3'⟩ := cy
  refine Clc.enter rm ok.cs10 rfl (by kernel_rfl) (by kernel_rfl) (by kernel_rfl) (by decide) fun env q code L => ?_
  refine Ex.cons ?_
  repeat walk_at "ev"
  refine Do.eqD (n := n) ((rm.deeper env).to) (RD.ints h3) (RD.ints h3') (shaped_ints _) (shaped_ints _) ?_
  rw [eqv_ints]
  exact h

noncomputable def firstAt (l : List Int) (k : Int) : V := if cnt l k % 2 = 1 then .int k else match l[cnt l k]? with | some v => .int v | none => .none
theorem cs_firstAt {x : Addr} {l : List Int} {k : Int} (rm : Rm A (n + 10)) (cx : CSet a H x l) (hs : l.Pairwise (· < ·)) (h : Q (firstAt l k) H) : Clc G A (.ref (a.cs 11)) [.ref x, .int k] H Q := by
  obtain ⟨d, b, h1, h2, h3⟩ := cx
  refine Clc.enter rm ok.cs11 rfl (by kernel_rfl) (by kernel_rfl) (by kernel_rfl) (by decide) fun env q code L => ?_
  refine Ex.cons ?_
  repeat walk_at "ev"
  refine c_place ok ((rm.deeper env).to (n := n) (k := 1)) h3 hs ?_
  have e : placeOf l k + 1 = (cnt l k : Int) := by unfold placeOf cnt; omega
  repeat walk_at "ev"
  rw [e, mod_two]
  refine ⟨fun e2 => ?_, fun e2 => ?_⟩
  · have e2 : cnt l k % 2 = 1 := by simpa using e2
    repeat walk_at "ev"
    unfold firstAt at h; rw [if_pos e2] at h; exact h
  · have e2 : ¬ cnt l k % 2 = 1 := by simpa using e2
    unfold firstAt at h; rw [if_neg e2] at h
    repeat walk_at "ev"
    rw [List.length_map]
    refine ⟨fun e3 => ?_, fun e3 => ?_⟩
    · have e3 : cnt l k < l.length := by simpa using e3
      repeat walk_at "ev"
      refine Do.item h3 (by omega) (item_get (List.getElem?_eq_getElem e3)) ?_
      rw [List.getElem?_eq_getElem e3] at h; exact h
    · have e3 : l.length ≤ cnt l k := by simpa using e3
      repeat walk_at "ev"
      rw [List.getElem?_eq_none_iff.mpr e3] at h; exact h
end
/-! ## plain: rows of a map -/
noncomputable def look (l : List (Int × S)) (k : Int) : Option S := ((l.filter fun p => decide (p.1 ≤ k)).getLast?).map (·.2)
theorem look_append (x y : List (Int × S)) (k : Int) : look (x ++ y) k = (look y k).or (look x k) := by
  unfold look
  rw [List.filter_append, List.getLast?_append]
  cases (List.filter (fun p => decide (p.1 ≤ k)) y).getLast? <;> simp
theorem look_all {x : List (Int × S)} {k : Int} (h : ∀ p ∈ x, p.1 ≤ k) : look x k = x.getLast?.map (·.2) := by
  unfold look
  rw [List.filter_eq_self.mpr fun p hp => by simpa using h p hp]
theorem look_none {x : List (Int × S)} {k : Int} (h : ∀ p ∈ x, k < p.1) : look x k = none := by
  unfold look
  rw [List.filter_eq_nil_iff.mpr fun p hp => by have := h p hp; simp; omega]
  rfl
theorem cntSplit : ∀ {l : List (Int × S)} (k : Int), (l.map (·.1)).Pairwise (· < ·) → (∀ p ∈ l.take (cnt (l.map (·.1)) k), p.1 ≤ k) ∧ (∀ p ∈ l.drop (cnt (l.map (·.1)) k), k < p.1)
  | [], k, _ => by simp
  | (x, v) :: t, k, h => by
    rw [List.map_cons] at h
    obtain ⟨h1, h2⟩ := List.pairwise_cons.mp h
    rw [List.map_cons, cnt_cons]
    by_cases q : x ≤ k
    · rw [if_pos q]
      have ih := cntSplit k h2
      constructor
      · intro p hp
        rw [List.take_succ_cons] at hp
        rcases List.mem_cons.mp hp with e | hp
        · subst e; exact q
        · exact ih.1 p hp
      · intro p hp
        rw [List.drop_succ_cons] at hp
        exact ih.2 p hp
    · rw [if_neg q]
      have e : cnt (t.map (·.1)) k = 0 := cnt_none fun z hz => by have := h1 z hz; omega
      rw [e]
      refine ⟨by simp, fun p hp => ?_⟩
      simp only [Nat.add_zero, List.drop_zero] at hp
      rcases List.mem_cons.mp hp with e | hp
      · subst e; show k < x; omega
      · have := h1 p.1 (List.mem_map_of_mem hp); omega
theorem look_cnt {l : List (Int × S)} {k : Int} (h : (l.map (·.1)).Pairwise (· < ·)) : look l k = (l.take (cnt (l.map (·.1)) k)).getLast?.map (·.2) := by
  have s := cntSplit k h
  have e : look l k = look (l.take (cnt (l.map (·.1)) k) ++ l.drop (cnt (l.map (·.1)) k)) k := by rw [List.take_append_drop]
  rw [e, look_append, look_none s.2, look_all s.1]
  rfl
theorem cnt_le_len (l : List Int) (k : Int) : cnt l k ≤ l.length := List.countP_le_length
theorem cnt_mono (l : List Int) {k k' : Int} (h : k ≤ k') : cnt l k ≤ cnt l k' := List.countP_mono_left fun x _ hx => by
  have : x ≤ k := by simpa using hx
  simpa using (by omega : x ≤ k')

noncomputable def NoRep : List (Int × S) → Prop
  | [] => True
  | [_] => True
  | p :: q :: t => p.2 ≠ q.2 ∧ NoRep (q :: t)
theorem NoRep.append : ∀ {x y : List (Int × S)}, NoRep (x ++ y) ↔ NoRep x ∧ NoRep y ∧ ∀ p q, x.getLast? = some p → y.head? = some q → p.2 ≠ q.2
  | [], y => by simp [NoRep]
  | [p], [] => by simp [NoRep]
  | [p], q :: t => by
    show (p.2 ≠ q.2 ∧ NoRep (q :: t)) ↔ _
    simp [NoRep]
    constructor
    · rintro ⟨a, b⟩; exact ⟨b, a⟩
    · rintro ⟨a, b⟩; exact ⟨b, a⟩
  | p :: p' :: x, y => by
    show (p.2 ≠ p'.2 ∧ NoRep (p' :: x ++ y)) ↔ (p.2 ≠ p'.2 ∧ NoRep (p' :: x)) ∧ _
    rw [NoRep.append (x := p' :: x) (y := y)]
    have : (p :: p' :: x).getLast? = (p' :: x).getLast? := by simp [List.getLast?_cons_cons]
    rw [this]
    constructor
    · rintro ⟨a, b, c, d⟩; exact ⟨⟨a, b⟩, c, d⟩
    · rintro ⟨⟨a, b⟩, c, d⟩; exact ⟨a, b, c, d⟩

structure RW (l : List (Int × S)) (φ : Int → S) : Prop where
  srt : (l.map (·.1)).Pairwise (· < ·)
  hd : ∃ v t, l = (0, v) :: t
  mx : ∀ p ∈ l, p.1 ≤ 1114111
  nr : NoRep l
  sem : ∀ k, 0 ≤ k → k ≤ 1114111 → look l k = some (φ k)

theorem RW.init (v : S) : RW [(0, v)] fun _ => v := ⟨by simp, ⟨v, [], rfl⟩, by simp, trivial, fun k h _ => by rw [look_all (by simp; exact h)]; rfl⟩

noncomputable def loOf (l : List (Int × S)) (f : Int) : Nat := cnt (l.map (·.1)) (f - 1)
noncomputable def hiOf (l : List (Int × S)) (la : Int) : Nat := cnt (l.map (·.1)) (la + 1)
/-- the rows in the midst -/
noncomputable def midOf (l : List (Int × S)) (f la : Int) (v behind : S) : List (Int × S) :=
  let mid := (f, v) :: if la < 1114111 ∧ behind ≠ v then [(la + 1, behind)] else []
  match (l.take (loOf l f)).getLast? with
  | some p => if p.2 = v then mid.drop 1 else mid
  | none => mid
noncomputable def putRows (l : List (Int × S)) (f la : Int) (v behind : S) : List (Int × S) := l.take (loOf l f) ++ midOf l f la v behind ++ l.drop (hiOf l la)

theorem midOf_mem {l f la v b} (hf : f ≤ la) : ∀ p ∈ midOf l f la v b, (p = (f, v)) ∨ (p = (la + 1, b) ∧ la < 1114111) := by
  unfold midOf
  intro p hp
  have key : ∀ p ∈ ((f, v) :: if la < 1114111 ∧ b ≠ v then [(la + 1, b)] else []), (p = (f, v)) ∨ (p = (la + 1, b) ∧ la < 1114111) := by
    intro p hp
    rcases List.mem_cons.mp hp with e | hp
    · exact .inl e
    · split at hp
      · rename_i q; simp at hp; exact .inr ⟨hp, q.1⟩
      · cases hp
  dsimp only at hp
  split at hp
  · split at hp
    · exact key p (List.mem_of_mem_drop hp)
    · exact key p hp
  · exact key p hp

theorem RW.put {l : List (Int × S)} {φ : Int → S} (R : RW l φ) {f la : Int} (h0 : 0 ≤ f) (h1 : f ≤ la) (h2 : la ≤ 1114111) (v behind : S) (hb : (l.take (hiOf l la)).getLast?.map (·.2) = some behind) :
    RW (putRows l f la v behind) fun k => if f ≤ k ∧ k ≤ la then v else φ k := by
  have sA := cntSplit (f - 1) R.srt
  have sB := cntSplit (la + 1) R.srt
  have hle : loOf l f ≤ hiOf l la := cnt_mono _ (by omega)
  have hlen : hiOf l la ≤ l.length := by have := cnt_le_len (l.map (·.1)) (la + 1); simpa [hiOf] using this
  -- the three parts
  obtain ⟨A, M0, B, eA, eB, eH, el⟩ : ∃ A M0 B, l.take (loOf l f) = A ∧ l.drop (hiOf l la) = B ∧ l.take (hiOf l la) = A ++ M0 ∧ l = A ++ M0 ++ B := by
    refine ⟨_, (l.drop (loOf l f)).take (hiOf l la - loOf l f), _, rfl, rfl, ?_, ?_⟩
    · rw [← List.take_add]; congr 1; omega
    · rw [← List.take_add, show loOf l f + (hiOf l la - loOf l f) = hiOf l la by omega, List.take_append_drop]
  have hA : ∀ p ∈ A, p.1 < f := fun p hp => by rw [← eA] at hp; have := sA.1 p hp; omega
  have hB : ∀ p ∈ B, la + 1 < p.1 := fun p hp => by rw [← eB] at hp; exact sB.2 p hp
  have hM : ∀ p ∈ M0, f ≤ p.1 ∧ p.1 ≤ la + 1 := fun p hp => by
    constructor
    · have : p ∈ l.drop (loOf l f) := by
        have e : l.drop (loOf l f) = M0 ++ B := by
          have : l = l.take (loOf l f) ++ (M0 ++ B) := by rw [eA, ← List.append_assoc]; exact el
          have := congrArg (List.drop (loOf l f)) this
          rw [List.drop_left' (by rw [List.length_take]; omega)] at this
          exact this
        rw [e]; exact List.mem_append_left _ hp
      have := sA.2 p this; omega
    · have : p ∈ l.take (hiOf l la) := by rw [eH]; exact List.mem_append_right _ hp
      exact sB.1 p this
  have mm := midOf_mem (l := l) (v := v) (b := behind) h1
  unfold putRows
  rw [eA, eB]
  have hmA : ∀ p ∈ midOf l f la v behind, f ≤ p.1 ∧ p.1 ≤ la + 1 := fun p hp => by
    rcases mm p hp with e | ⟨e, _⟩ <;> subst e
    · exact ⟨Int.le_refl _, by show f ≤ la + 1; omega⟩
    · exact ⟨by show f ≤ la + 1; omega, Int.le_refl _⟩
  -- what the midst is
  have cases_ : (∃ p, A.getLast? = some p ∧ p.2 = v ∧ midOf l f la v behind = (if la < 1114111 ∧ behind ≠ v then [(la + 1, behind)] else [])) ∨
      ((∀ p, A.getLast? = some p → p.2 ≠ v) ∧ midOf l f la v behind = (f, v) :: (if la < 1114111 ∧ behind ≠ v then [(la + 1, behind)] else [])) := by
    unfold midOf
    rw [eA]
    cases q : A.getLast? with
    | none => exact .inr ⟨fun p e => (by cases e), rfl⟩
    | some p =>
      by_cases z : p.2 = v
      · exact .inl ⟨p, rfl, z, by simp [z]⟩
      · exact .inr ⟨fun p' e => (by cases e; exact z), by simp [z]⟩
  have srtl : ((A ++ M0 ++ B).map (·.1)).Pairwise (· < ·) := el ▸ R.srt
  have nrl : NoRep (A ++ M0 ++ B) := el ▸ R.nr
  rw [NoRep.append, NoRep.append] at nrl
  obtain ⟨⟨nA, nM, nAM⟩, nB, nMB⟩ := nrl
  have behindB : ∀ q, B.head? = some q → behind ≠ q.2 := fun q hq => by
    rw [eH] at hb
    cases z : (A ++ M0).getLast? with
    | none => rw [z] at hb; cases hb
    | some p => rw [z] at hb; cases hb; exact nMB p q z hq
  refine ⟨?_, ?_, ?_, ?_, ?_⟩
  · simp only [List.map_append, List.pairwise_append] at srtl ⊢
    refine ⟨⟨srtl.1.1, ?_, fun x hx y hy => ?_⟩, srtl.2.1, fun x hx y hy => ?_⟩
    · rcases cases_ with ⟨_, _, _, e⟩ | ⟨_, e⟩ <;> rw [e] <;> split <;> simp; omega
    · obtain ⟨p, hp, rfl⟩ := List.mem_map.mp hx
      obtain ⟨p', hp', rfl⟩ := List.mem_map.mp hy
      have := hA p hp; have := (hmA p' hp').1; omega
    · obtain ⟨p', hp', rfl⟩ := List.mem_map.mp hy
      have := hB p' hp'
      rcases List.mem_append.mp hx with hx | hx <;> obtain ⟨p, hp, rfl⟩ := List.mem_map.mp hx
      · have := hA p hp; omega
      · have := (hmA p hp).2; omega
  · obtain ⟨v0, t, e0⟩ := R.hd
    cases hAe : A with
    | cons p A' =>
      refine ⟨v0, A' ++ midOf l f la v behind ++ B, ?_⟩
      have : p = (0, v0) := by
        rw [el, hAe] at e0
        simpa using congrArg List.head? e0
      rw [this]; rfl
    | nil =>
      -- the first row starts at 0, so f is 0
      have f0 : f = 0 := by
        have : (0, v0) ∈ l.drop (loOf l f) := by
          have : l.drop (loOf l f) = l := by
            have e : l.take (loOf l f) = [] := by rw [eA, hAe]
            have := List.take_append_drop (loOf l f) l
            rw [e] at this; simpa using this
          rw [this, e0]; exact List.mem_cons_self
        have := sA.2 _ this
        simp at this; omega
      rcases cases_ with ⟨p, e, _⟩ | ⟨_, e⟩
      · rw [hAe] at e; cases e
      · rw [e, f0]; exact ⟨v, _, rfl⟩
  · intro p hp
    rcases List.mem_append.mp hp with hp | hp
    · rcases List.mem_append.mp hp with hp | hp
      · exact R.mx p (by rw [el]; simp [hp])
      · rcases mm p hp with e | ⟨e, z⟩ <;> subst e
        · show f ≤ 1114111; omega
        · show la + 1 ≤ 1114111; omega
    · exact R.mx p (by rw [el]; simp [hp])
  · rw [NoRep.append, NoRep.append]
    -- the end of the front part
    have endv : ∀ p, (A ++ midOf l f la v behind).getLast? = some p → la < 1114111 → p.2 = behind := fun p hp hl => by
      rw [List.getLast?_append] at hp
      rcases cases_ with ⟨p', e1, e2, e3⟩ | ⟨e1, e3⟩
      · rw [e3] at hp
        by_cases z : behind = v
        · rw [if_neg (by simp [z])] at hp
          simp only [List.getLast?_nil, Option.none_or] at hp
          rw [e1] at hp; cases hp; rw [e2, z]
        · rw [if_pos ⟨hl, z⟩] at hp
          simp at hp; rw [← hp]
      · rw [e3] at hp
        by_cases z : behind = v
        · rw [if_neg (by simp [z])] at hp
          simp at hp; rw [← hp]; exact z.symm
        · rw [if_pos ⟨hl, z⟩] at hp
          simp at hp; rw [← hp]
    refine ⟨⟨nA, ?_, fun p q hp hq => ?_⟩, nB, fun p q hp hq => ?_⟩
    · rcases cases_ with ⟨_, _, _, e⟩ | ⟨_, e⟩ <;> rw [e] <;> split
      · trivial
      · trivial
      · rename_i z; exact ⟨fun h => z.2 h.symm, trivial⟩
      · trivial
    · rcases cases_ with ⟨p', e1, e2, e3⟩ | ⟨e1, e3⟩
      · rw [e3] at hq
        split at hq
        · rename_i z
          cases hq
          rw [e1] at hp; cases hp; rw [e2]; exact fun h => z.2 h.symm
        · cases hq
      · rw [e3] at hq; cases hq
        exact e1 p hp
    · have hl : la < 1114111 := by
        have hqm : q ∈ B := List.mem_of_mem_head? (by rw [hq]; rfl)
        have := hB q hqm
        have := R.mx q (by rw [el]; simp [hqm])
        omega
      rw [endv p hp hl]
      exact behindB q hq
  · intro k k0 k1
    have sem := R.sem k k0 k1
    rw [el] at sem
    rw [look_append, look_append] at sem ⊢
    by_cases c1 : k < f
    · rw [if_neg (by omega)]
      have e1 : look M0 k = none := look_none fun p hp => by have := hM p hp; omega
      have e2 : look (midOf l f la v behind) k = none := look_none fun p hp => by have := hmA p hp; omega
      rw [e1] at sem
      rw [e2]; exact sem
    · by_cases c2 : k ≤ la
      · rw [if_pos (by omega), look_none fun p hp => by have := hB p hp; omega]
        have eA' : look A k = A.getLast?.map (·.2) := look_all fun p hp => by have := hA p hp; omega
        rcases cases_ with ⟨p', e1, e2, e3⟩ | ⟨e1, e3⟩
        · have : look (midOf l f la v behind) k = none := look_none fun p hp => by
            rw [e3] at hp; split at hp
            · simp at hp; rw [hp]; show k < la + 1; omega
            · cases hp
          rw [this, eA', e1]
          simp [e2]
        · have : look (midOf l f la v behind) k = some v := by
            rw [e3]
            have : ((f, v) :: if la < 1114111 ∧ behind ≠ v then [(la + 1, behind)] else []) = [(f, v)] ++ (if la < 1114111 ∧ behind ≠ v then [(la + 1, behind)] else []) := rfl
            rw [this, look_append, look_none (x := if la < 1114111 ∧ behind ≠ v then [(la + 1, behind)] else []) fun p hp => by
              (split at hp
               · simp at hp; rw [hp]; show k < la + 1; omega
               · cases hp), look_all (x := [(f, v)]) (fun p hp => by simp at hp; rw [hp]; show f ≤ k; omega)]
            rfl
          rw [this]; rfl
      · rw [if_neg (by omega)]
        have hl : la < 1114111 := by omega
        cases hBk : look B k with
        | some w => rw [hBk] at sem; simpa using sem
        | none =>
          rw [hBk] at sem
          have a1 : look (A ++ M0) k = (A ++ M0).getLast?.map (·.2) := look_all fun p hp => by
            rcases List.mem_append.mp hp with hp | hp
            · have := hA p hp; omega
            · have := hM p hp; omega
          rw [← look_append, a1] at sem
          rw [eH] at hb
          rw [hb] at sem
          have sem : some behind = some (φ k) := by simpa using sem
          rw [← sem]
          have a2 : look (midOf l f la v behind) k = (midOf l f la v behind).getLast?.map (·.2) := look_all fun p hp => by have := hmA p hp; omega
          have a3 : look A k = A.getLast?.map (·.2) := look_all fun p hp => by have := hA p hp; omega
          rw [a2, a3]
          rcases cases_ with ⟨p', e1, e2, e3⟩ | ⟨e1, e3⟩
          · rw [e3, e1]
            by_cases z : behind = v
            · rw [if_neg (by simp [z])]; simp [e2, z]
            · rw [if_pos ⟨hl, z⟩]; simp
          · rw [e3]
            by_cases z : behind = v
            · rw [if_neg (by simp [z])]; simp [z]
            · rw [if_pos ⟨hl, z⟩]; simp
noncomputable def fR (dflt : V) (bs bv : Addr) : Str → Option V := attPut (attPut (attPut (fun _ => none) "default" dflt) "starts" (.ref bs)) "values" (.ref bv)
noncomputable def stV (l : List (Int × S)) : List V := (l.map (·.1)).map .int
noncomputable def vaV (l : List (Int × S)) : List V := l.map fun p => p.2.v
noncomputable def RMap (a : Ad) (H : AH) (x : Addr) (dflt : S) (l : List (Int × S)) : Prop := ∃ d bs bv, H x = some (.inst a.RangeMap d) ∧ H d = some (.att (fR dflt.v bs bv) 3) ∧ H bs = some (.list (stV l)) ∧ H bv = some (.list (vaV l))
theorem RMap.ext {a H H' x dflt l} (h : RMap a H x dflt l) (e : Ext H H') : RMap a H' x dflt l := by
  obtain ⟨d, bs, bv, h1, h2, h3, h4⟩ := h
  exact ⟨d, bs, bv, e _ _ h1, e _ _ h2, e _ _ h3, e _ _ h4⟩
noncomputable def RMd (a : Ad) (H : AH) (x d : Addr) (dflt : S) (l : List (Int × S)) : Prop := H x = some (.inst a.RangeMap d) ∧ ∃ bs bv, H d = some (.att (fR dflt.v bs bv) 3) ∧ H bs = some (.list (stV l)) ∧ H bv = some (.list (vaV l))
theorem RMap.d {a H x dflt l} (h : RMap a H x dflt l) : ∃ d, RMd a H x d dflt l := by
  obtain ⟨d, bs, bv, h1, h2, h3, h4⟩ := h
  exact ⟨d, h1, bs, bv, h2, h3, h4⟩
theorem RMd.map {a H x d dflt l} (h : RMd a H x d dflt l) : RMap a H x dflt l := by
  obtain ⟨h1, bs, bv, h2, h3, h4⟩ := h
  exact ⟨d, bs, bv, h1, h2, h3, h4⟩
theorem RMd.ext {a H H' x d dflt l} (h : RMd a H x d dflt l) (e : Ext H H') : RMd a H' x d dflt l := by
  obtain ⟨h1, bs, bv, h2, h3, h4⟩ := h
  exact ⟨e _ _ h1, bs, bv, e _ _ h2, e _ _ h3, e _ _ h4⟩
theorem S.plain (s : S) : s.v.plain = true := by cases s <;> rfl
theorem att_comm {f : Str → Option V} {x y : Str} {r r' : V} (h : x ≠ y) : attPut (attPut f x r) y r' = attPut (attPut f y r') x r := by
  funext z; unfold attPut
  by_cases q : z = x
  · have q2 : ¬ z = y := fun e => h (q.symm.trans e)
    simp only [if_pos q, if_neg q2]
  · by_cases q2 : z = y
    · simp only [if_neg q, if_pos q2]
    · simp only [if_neg q, if_neg q2]
theorem fR_again {dflt bs bv r r'} : attPut (attPut (fR dflt bs bv) "starts" (.ref r)) "values" (.ref r') = fR dflt r r' := by
  unfold fR
  rw [att_comm (x := "values") (y := "starts") (by decide), attPut_twice, attPut_twice]
theorem getLast_take {α : Type} {l : List α} {c : Nat} (h0 : 0 < c) (h : c ≤ l.length) : (l.take c).getLast? = l[c - 1]? := by
  rw [List.getLast?_eq_getElem?, List.length_take, Nat.min_eq_left h, List.getElem?_take]
  rw [if_pos (by omega)]
theorem look_get {l : List (Int × S)} {k : Int} {s : S} (h : (l.map (·.1)).Pairwise (· < ·)) (e : look l k = some s) : 0 < cnt (l.map (·.1)) k ∧ (vaV l)[cnt (l.map (·.1)) k - 1]? = some s.v := by
  rw [look_cnt h] at e
  have hc : cnt (l.map (·.1)) k ≤ l.length := by have := cnt_le_len (l.map (·.1)) k; simpa using this
  have h0 : 0 < cnt (l.map (·.1)) k := by
    rcases Nat.eq_zero_or_pos (cnt (l.map (·.1)) k) with q | q
    · rw [q] at e; simp at e
    · exact q
  rw [getLast_take h0 hc] at e
  refine ⟨h0, ?_⟩
  unfold vaV
  rw [List.getElem?_map]
  cases z : l[cnt (l.map (·.1)) k - 1]? with
  | none => rw [z] at e; cases e
  | some p => rw [z] at e; simp at e; simp [e]
theorem hiOf_last {l : List (Int × S)} {φ} (R : RW l φ) {la : Int} (h : 0 ≤ la) : ∃ p, (l.take (hiOf l la)).getLast? = some p ∧ l[hiOf l la - 1]? = some p ∧ 0 < hiOf l la ∧ hiOf l la ≤ l.length := by
  obtain ⟨v, t, e⟩ := R.hd
  have h0 : 0 < hiOf l la := by
    unfold hiOf; rw [e, List.map_cons, cnt_cons]; simp; rw [if_pos (by omega)]; omega
  have hc : hiOf l la ≤ l.length := by have := cnt_le_len (l.map (·.1)) (la + 1); simpa [hiOf] using this
  have : hiOf l la - 1 < l.length := by omega
  exact ⟨_, (getLast_take h0 hc).trans (List.getElem?_eq_getElem this), List.getElem?_eq_getElem this, h0, hc⟩
theorem putRows_len {l f la v b} : (putRows l f la v b).length ≤ 2 * l.length + 2 := by
  unfold putRows midOf
  simp only [List.length_append, List.length_take, List.length_drop]
  have : ∀ m : List (Int × S), (m.drop 1).length ≤ m.length := fun m => by simp
  split
  · split <;> split <;> simp <;> omega
  · split <;> simp <;> omega

section
variable {G : Gl} {a : Ad} (ok : Ok G a) {A : Around} {H : AH} {Q : V → AH → Prop} {n : Nat}
include ok
theorem rm_make {dflt : S} (rm : Rm A (n + 3)) (h : ∀ x d H', RMd a H' x d dflt [(0, dflt)] → Ext H H' → H x = none → H d = none → Q (.ref x) H') : Cl G A (.ref a.RangeMap) [dflt.v] H Q := by
  refine Cl.make (n := n + 2) rm ok.RM fun A' x d rm' hx hd hne => ?_
  refine Clc.enter (n := n + 1) rm' ok.rm0 rfl (by kernel_rfl) (by kernel_rfl) (by kernel_rfl) (by decide) fun env q code L => ?_
  have h1 : (AH.put (AH.put H d (.att (fun _ => none) 0)) x (.inst a.RangeMap d)) x = some (.inst a.RangeMap d) := AH.put_self _ _ _
  have h2 : (AH.put (AH.put H d (.att (fun _ => none) 0)) x (.inst a.RangeMap d)) d = some (.att (fun _ => none) 0) := by rw [AH.put_ne _ _ hne.symm, AH.put_self]
  have E : ExtB d H (AH.put (AH.put H d (.att (fun _ => none) 0)) x (.inst a.RangeMap d)) := ((Ext.put hd).put' hx).b
  generalize (AH.put (AH.put H d (.att (fun _ => none) 0)) x (.inst a.RangeMap d)) = H1 at *
  refine Ex.cons ?_
  refine Ex1.setattr ?_
  repeat walk_at "ev"
  refine ⟨x, _, d, _, _, _, _, _, rfl, ok.RM, h1, h2, by decide, by decide, ?_⟩
  have h1 : (AH.put H1 d (.att (attPut (fun _ => none) "default" dflt.v) 1)) x = some (.inst a.RangeMap d) := by rw [AH.put_ne _ _ hne]; exact h1
  have h2 : (AH.put H1 d (.att (attPut (fun _ => none) "default" dflt.v) 1)) d = some (.att (attPut (fun _ => none) "default" dflt.v) 1) := AH.put_self _ _ _
  have E : ExtB d H (AH.put H1 d (.att (attPut (fun _ => none) "default" dflt.v) 1)) := E.trans .put
  show Ex _ _ _ (AH.put H1 d (.att (attPut (fun _ => none) "default" dflt.v) 1)) _ _
  generalize (AH.put H1 d (.att (attPut (fun _ => none) "default" dflt.v) 1)) = H2 at *
  refine Ex.cons ?_
  refine Ex1.setattr ?_
  repeat walk_at "ev"
  intro bs hbs
  repeat walk_at "ev"
  have nbs : bs ≠ d := fun q => by subst q; rw [h2] at hbs; cases hbs
  refine ⟨x, _, d, _, _, _, _, _, rfl, ok.RM, Ext.put hbs _ _ h1, Ext.put hbs _ _ h2, by decide, by decide, ?_⟩
  have h3 : (AH.put (AH.put H2 bs (.list [.int 0])) d (.att (attPut (attPut (fun _ => none) "default" dflt.v) "starts" (.ref bs)) 2)) bs = some (.list [.int 0]) := by rw [AH.put_ne _ _ nbs]; exact AH.put_self _ _ _
  have h1 : (AH.put (AH.put H2 bs (.list [.int 0])) d (.att (attPut (attPut (fun _ => none) "default" dflt.v) "starts" (.ref bs)) 2)) x = some (.inst a.RangeMap d) := by rw [AH.put_ne _ _ hne]; exact Ext.put hbs _ _ h1
  have h2 : (AH.put (AH.put H2 bs (.list [.int 0])) d (.att (attPut (attPut (fun _ => none) "default" dflt.v) "starts" (.ref bs)) 2)) d = some (.att (attPut (attPut (fun _ => none) "default" dflt.v) "starts" (.ref bs)) 2) := AH.put_self _ _ _
  have E : ExtB d H (AH.put (AH.put H2 bs (.list [.int 0])) d (.att (attPut (attPut (fun _ => none) "default" dflt.v) "starts" (.ref bs)) 2)) := (E.trans (Ext.put hbs).b).trans .put
  show Ex _ _ _ (AH.put (AH.put H2 bs (.list [.int 0])) d (.att (attPut (attPut (fun _ => none) "default" dflt.v) "starts" (.ref bs)) 2)) _ _
  generalize (AH.put (AH.put H2 bs (.list [.int 0])) d (.att (attPut (attPut (fun _ => none) "default" dflt.v) "starts" (.ref bs)) 2)) = H3 at *
  refine Ex.cons ?_
  refine Ex1.setattr ?_
  repeat walk_at "ev"
  intro bv hbv
  repeat walk_at "ev"
  have nbv : bv ≠ d := fun q => by subst q; rw [h2] at hbv; cases hbv
  refine ⟨x, _, d, _, _, _, _, _, rfl, ok.RM, Ext.put hbv _ _ h1, Ext.put hbv _ _ h2, by decide, by decide, ?_⟩
  repeat walk_at "ev"
  refine h x d _ ⟨?_, bs, bv, ?_, ?_, ?_⟩ (ExtB.new ((E.trans (Ext.put hbv).b).trans .put) hd) hx hd
  · rw [AH.put_ne _ _ hne]; exact Ext.put hbv _ _ h1
  · rw [AH.put_self]; rfl
  · rw [AH.put_ne _ _ nbs]; exact Ext.put hbv _ _ h3
  · rw [AH.put_ne _ _ nbv]; exact AH.put_self _ _ _

theorem rm_get {x : Addr} {dflt : S} {l : List (Int × S)} {φ : Int → S} {k : Int} (rm : Rm A (n + 3)) (m : RMap a H x dflt l) (R : RW l φ) (h0 : 0 ≤ k) (h1 : k ≤ 1114111) (h : Q (φ k).v H) : Clc G A (.ref (a.rm 1)) [.ref x, .int k] H Q := by
  obtain ⟨d, bs, bv, g1, g2, g3, g4⟩ := m
  refine Clc.enter rm ok.rm1 rfl (by kernel_rfl) (by kernel_rfl) (by kernel_rfl) (by decide) fun env q code L => ?_
  refine Ex.cons ?_
  repeat walk_at "ev"
  refine c_place ok (l := l.map fun p : Int × S => p.1) ((rm.deeper env).to (n := n) (k := 1)) g3 R.srt ?_
  obtain ⟨c0, ge⟩ := look_get R.srt (R.sem k h0 h1)
  have e : placeOf (l.map (·.1)) k = ((cnt (l.map (·.1)) k - 1 : Nat) : Int) := by unfold placeOf; unfold cnt at c0 ⊢; omega
  repeat walk_at "ev"
  rw [e]
  refine Do.item g4 (by omega) (by rw [Int.toNat_natCast]; exact ge) ?_
  exact h
end
theorem putRows_len2 {l f la v b} (h : f ≤ la) : (putRows l f la v b).length ≤ l.length + 2 := by
  have hle : loOf l f ≤ hiOf l la := cnt_mono _ (by omega)
  have hlen : hiOf l la ≤ l.length := by have := cnt_le_len (l.map (·.1)) (la + 1); simpa [hiOf] using this
  have hm : (midOf l f la v b).length ≤ 2 := by
    unfold midOf
    have : ∀ m : List (Int × S), (m.drop 1).length ≤ m.length := fun m => by simp
    dsimp only
    split
    · split
      · refine Nat.le_trans (this _) ?_; split <;> simp
      · split <;> simp
    · split <;> simp
  unfold putRows
  simp only [List.length_append, List.length_take, List.length_drop]
  omega
theorem stV_put {l f la v b} : stV (putRows l f la v b) = (stV l).take (loOf l f) ++ stV (midOf l f la v b) ++ (stV l).drop (hiOf l la) := by
  unfold putRows stV
  simp [List.map_append, List.map_take, List.map_drop]
theorem vaV_put {l f la v b} : vaV (putRows l f la v b) = (vaV l).take (loOf l f) ++ vaV (midOf l f la v b) ++ (vaV l).drop (hiOf l la) := by
  unfold putRows vaV
  simp [List.map_append, List.map_take, List.map_drop]
theorem midOf_eq {l f la v b} : midOf l f la v b = if 0 < loOf l f ∧ (l[loOf l f - 1]?).map (·.2) = some v then (if la < 1114111 ∧ b ≠ v then [(la + 1, b)] else []) else (f, v) :: (if la < 1114111 ∧ b ≠ v then [(la + 1, b)] else []) := by
  have hc : loOf l f ≤ l.length := by have := cnt_le_len (l.map (·.1)) (f - 1); simpa [loOf] using this
  unfold midOf
  rcases Nat.eq_zero_or_pos (loOf l f) with q | q
  · rw [q]; simp
  · rw [getLast_take q hc, List.getElem?_eq_getElem (show loOf l f - 1 < l.length by omega)]
    simp only [q, true_and, Option.map_some, Option.some.injEq]
    split <;> simp
theorem on2 {C : Cx} {x y} (h : Own C x) (h' : Own C y) : ∀ n ∈ [(x : Str), y], Own C n := fun n hn => by simp at hn; rcases hn with rfl | rfl <;> assumption
/-- a statement of RangeMap.put -/
noncomputable def pst (j : Nat) : Stmt := (fnBody (meth 11 2)).getD j (.Pass ⟨0, 0, 0, 0⟩)
section
variable {C : Cx} {σ : Lo} {H : AH}
/-- self.X[:low] + X + self.X[high:] -/
theorem Ev.splice {X : Str} {x b c : Addr} {l m : List V} {lo hi : Nat} {p1 p2 p3 p4 p5 p6 p7 p8 p9 p10 p11 p12 p13} {Q : V → AH → Prop} (hs : ∀ p H' (Q : V → AH → Prop), Q (.ref x) H' → Ev C (.Name "self" p) σ H' Q) (hl : ∀ p H' (Q : V → AH → Prop), Q (.int lo) H' → Ev C (.Name "low" p) σ H' Q)
    (hh : ∀ p H' (Q : V → AH → Prop), Q (.int hi) H' → Ev C (.Name "high" p) σ H' Q) (hX : ∀ p H' (Q : V → AH → Prop), Q (.ref c) H' → Ev C (.Name X p) σ H' Q) (hA : ∀ H' (Q : V → AH → Prop), Ext H H' → Q (.ref b) H' → Ga C.G C.A (.ref x) X H' Q)
    (hb : H b = some (.list l)) (hc : H c = some (.list m)) (zl : l.length ≤ 2000) (zm : m.length ≤ 2) (h : ∀ u H', Ext H H' → H' u = some (.list (l.take lo ++ m ++ l.drop hi)) → Q (.ref u) H') :
    Ev C (.BinOp (.BinOp (.Subscript (.Attribute (.Name "self" p1) X p2) (.Slice Option.none (Option.some (.Name "low" p3)) Option.none p4) p5) .Add (.Name X p6) p7) .Add (.Subscript (.Attribute (.Name "self" p8) X p9) (.Slice (Option.some (.Name "high" p10)) Option.none Option.none p11) p12) p13) σ H Q := by
  refine Ev.binop ?_
  refine Ev.binop ?_
  refine Ev.slice ?_
  refine Ev.attr (hs _ _ _ (hA _ _ (Ext.refl _) ?_))
  refine Ep.none ?_
  refine Ep.some (hl _ _ _ ⟨_, rfl, ?_⟩)
  refine Ep.none ?_
  refine ⟨b, _, _, rfl, hb, by decide, pick_upto, fun u1 hu1 => ?_⟩
  refine hX _ _ _ ?_
  refine Do.addL (AH.put_self _ _ _) (Ext.put hu1 _ _ hc) (by rw [List.length_take]; omega) (by omega) fun u2 hu2 => ?_
  have X2 : Ext H (AH.put (AH.put H u1 (.list (l.take lo))) u2 (.list (l.take lo ++ m))) := (Ext.put hu1).trans (Ext.put hu2)
  have y2 : (AH.put (AH.put H u1 (.list (l.take lo))) u2 (.list (l.take lo ++ m))) u2 = some (.list (l.take lo ++ m)) := AH.put_self _ _ _
  refine Ev.slice ?_
  refine Ev.attr (hs _ _ _ (hA _ _ X2 ?_))
  refine Ep.some (hh _ _ _ ⟨_, rfl, ?_⟩)
  refine Ep.none ?_
  refine Ep.none ?_
  refine ⟨b, _, _, rfl, X2 _ _ hb, by decide, pick_from, fun u3 hu3 => ?_⟩
  refine Do.addL (Ext.put hu3 _ _ y2) (AH.put_self _ _ _) (by rw [List.length_append, List.length_take]; omega) (by rw [List.length_drop]; omega) fun u4 hu4 => ?_
  exact h u4 _ (X2.trans ((Ext.put hu3).trans (Ext.put hu4))) (AH.put_self _ _ _)
end
section
variable {G : Gl} {a : Ad} (ok : Ok G a) {A : Around} {H : AH} {σ : Lo} {Qn : Lo → AH → Prop} {Qr : V → AH → Prop} {n : Nat} {q : Str} {code : Value} {L x d b1 b2 bs bv : Addr} {f la : Int} {s t dflt : S} {l T : List (Int × S)} {lo : Nat}
include ok
theorem rp5 (rm : Rm A (n + 9)) (sl : σ "last" = some (.int la)) (sb : σ "behind" = some t.v) (s2 : σ "value" = some s.v) (s5 : σ "starts" = some (.ref b1)) (s6 : σ "values" = some (.ref b2)) (n21 : b2 ≠ b1) (k1 : H b1 = some (.list (stV [(f, s)]))) (k2 : H b2 = some (.list (vaV [(f, s)])))
    (h : ∀ H2, (∀ z o, z ≠ b1 → z ≠ b2 → H z = some o → H2 z = some o) → H2 b1 = some (.list (stV ((f, s) :: if la < 1114111 ∧ t ≠ s then [(la + 1, t)] else []))) → H2 b2 = some (.list (vaV ((f, s) :: if la < 1114111 ∧ t ≠ s then [(la + 1, t)] else []))) → Qn σ H2) :
    Ex1 (Cx.of G A (n + 9) rm (fnScope (meth 11 2)) rfl q code (a.rm 2) L) (pst 5) σ H Qn Qr := by
  refine Ex1.if_ ?_
  refine Et.mono (Q := fun b H2 => H2 = H ∧ b = decide (la < 1114111 ∧ t ≠ s)) ?_ ?_
  · repeat walk_at "ev"
    refine ⟨fun e2 => ?_, fun e2 => ?_⟩
    · have e2 : ¬ la < 1114111 := by simpa using e2
      simp [e2]
    · have e2 : la < 1114111 := by simpa using e2
      repeat walk_at "ev"
      refine Clc.cl (c_areLike ok (x := t) (y := s) (n := n) (rm.to) ?_)
      refine ⟨_, rfl, rfl, ?_⟩
      simp [e2]
  rintro b H2 ⟨rfl, rfl⟩
  refine ⟨fun e2 => ?_, fun e2 => ?_⟩
  · rw [if_pos (of_decide_eq_true e2)] at h
    repeat walk_at "ev"
    refine Cl.append k1 (show 1 ≤ 2 ^ 20 by decide) ?_
    repeat walk_at "ev"
    have k2' : (AH.put H2 b1 (.list (stV [(f, s)] ++ [.int (la + 1)]))) b2 = some (.list (vaV [(f, s)])) := (AH.put_ne _ _ n21).trans k2
    repeat walk_at "ev"
    refine Cl.append k2' (show 1 ≤ 2 ^ 20 by decide) ?_
    refine ⟨rfl, Ex.nil (h _ (fun z o n1 n2 ez => ?_) ?_ (AH.put_self _ _ _))⟩
    · rw [AH.put_ne _ _ n2, AH.put_ne _ _ n1]; exact ez
    · rw [AH.put_ne _ _ n21.symm]; exact AH.put_self _ _ _
  · rw [if_neg (of_decide_eq_false e2)] at h
    exact Ex.nil (h _ (fun _ _ _ _ e => e) k1 k2)
theorem rp6 (rm : Rm A (n + 9)) (s1 : σ "self" = some (.ref x)) (s3 : σ "low" = some (.int lo)) (s2 : σ "value" = some s.v) (s5 : σ "starts" = some (.ref b1)) (s6 : σ "values" = some (.ref b2)) (g1 : H x = some (.inst a.RangeMap d)) (g2 : H d = some (.att (fR dflt.v bs bv) 3)) (g4 : H bv = some (.list (vaV l)))
    (lL : lo ≤ l.length) (m1 : H b1 = some (.list (stV ((f, s) :: T)))) (m2 : H b2 = some (.list (vaV ((f, s) :: T))))
    (h : ∀ σ3 H3 c1 c2, (∀ y : Str, y ≠ "starts" → y ≠ "values" → σ3 y = σ y) → Ext H H3 → σ3 "starts" = some (.ref c1) → σ3 "values" = some (.ref c2) → H3 c1 = some (.list (stV (if 0 < lo ∧ (l[lo - 1]?).map (·.2) = some s then T else (f, s) :: T))) →
      H3 c2 = some (.list (vaV (if 0 < lo ∧ (l[lo - 1]?).map (·.2) = some s then T else (f, s) :: T))) → Qn σ3 H3) :
    Ex1 (Cx.of G A (n + 9) rm (fnScope (meth 11 2)) rfl q code (a.rm 2) L) (pst 6) σ H Qn Qr := by
  refine Ex1.if_ ?_
  refine Et.mono (Q := fun b H3 => H3 = H ∧ b = decide (0 < lo ∧ (l[lo - 1]?).map (·.2) = some s)) ?_ ?_
  · repeat walk_at "ev"
    refine ⟨fun e2 => ?_, fun e2 => ?_⟩
    · have e2 : lo = 0 := by simpa using e2
      simp [e2]
    · have e2 : 0 < lo := by simpa using e2
      repeat walk_at "ev"
      have elo1 : (lo : Int) - 1 = ((lo - 1 : Nat) : Int) := by omega
      rw [elo1]
      obtain ⟨y, gg⟩ : ∃ y, l[lo - 1]? = some y := ⟨_, List.getElem?_eq_getElem (show lo - 1 < l.length by omega)⟩
      refine Do.item g4 (Int.natCast_nonneg _) (r := y.2.v) (by rw [Int.toNat_natCast]; unfold vaV; rw [List.getElem?_map, gg]; rfl) ?_
      repeat walk_at "ev"
      refine Clc.cl (c_areLike ok (x := y.2) (y := s) (n := n) (rm.to) ?_)
      refine ⟨_, rfl, rfl, ?_⟩
      rw [gg]
      simp [e2]
  rintro b H3 ⟨rfl, rfl⟩
  refine ⟨fun e2 => ?_, fun e2 => ?_⟩
  · rw [if_pos (of_decide_eq_true e2)] at h
    refine Ex.cons ?_
    refine Ex1.assignTS (names := ["starts", "values"]) ?_
    refine Ev.tuple ?_
    refine Es.cons ?_
    refine Ev.slice ?_
    repeat walk_at "ev"
    refine ⟨b1, _, _, rfl, m1, by decide, pick_from (a := 1), fun c1 hc1 => ?_⟩
    refine Es.cons ?_
    refine Ev.slice ?_
    repeat walk_at "ev"
    refine ⟨b2, _, _, rfl, Ext.put hc1 _ _ m2, by decide, pick_from (a := 1), fun c2 hc2 => ?_⟩
    repeat walk_at "ev"
    refine ⟨on2 (by walk_at "own") (by walk_at "own"), ?_⟩
    refine Ex.nil ?_
    have es : ∀ z, σ.puts ([("starts" : Str), "values"].reverse.zip [V.ref c1, V.ref c2].reverse) z = (Lo.put (Lo.put σ "values" (.ref c2)) "starts" (.ref c1)) z := fun _ => rfl
    exact h _ _ c1 c2 (fun y h1 h2 => (es _).trans ((Lo.put_ne _ _ h1).trans (Lo.put_ne _ _ h2))) ((Ext.put hc1).trans (Ext.put hc2)) ((es _).trans (Lo.put_self _ _ _)) ((es _).trans ((Lo.put_ne _ _ (by decide)).trans (Lo.put_self _ _ _))) (Ext.put hc2 _ _ (AH.put_self _ _ _)) (AH.put_self _ _ _)
  · rw [if_neg (of_decide_eq_false e2)] at h
    exact Ex.nil (h _ _ b1 b2 (fun _ _ _ => rfl) (Ext.refl _) s5 s6 m1 m2)
/-- self.starts and self.values anew -/
theorem rp78 (rm : Rm A (n + 9)) {c1 c2 : Addr} {hi : Nat} {M : List (Int × S)} (s1 : σ "self" = some (.ref x)) (s3 : σ "low" = some (.int lo)) (s4 : σ "high" = some (.int hi)) (s5 : σ "starts" = some (.ref c1)) (s6 : σ "values" = some (.ref c2)) (hxd : x ≠ d)
    (g1 : H x = some (.inst a.RangeMap d)) (g2 : H d = some (.att (fR dflt.v bs bv) 3)) (g3 : H bs = some (.list (stV l))) (g4 : H bv = some (.list (vaV l))) (hz : l.length ≤ 1000) (zM : M.length ≤ 2) (w1 : H c1 = some (.list (stV M))) (w2 : H c2 = some (.list (vaV M)))
    (h : ∀ H', RMd a H' x d dflt (l.take lo ++ M ++ l.drop hi) → ExtB d H H' → Qn σ H') :
    Ex (Cx.of G A (n + 9) rm (fnScope (meth 11 2)) rfl q code (a.rm 2) L) [pst 7, pst 8] σ H Qn Qr := by
  have ls : (stV l).length = l.length := by simp [stV]
  have lv : (vaV l).length = l.length := by simp [vaV]
  have lsM : (stV M).length = M.length := by simp [stV]
  have lvM : (vaV M).length = M.length := by simp [vaV]
  have es : (stV l).take lo ++ stV M ++ (stV l).drop hi = stV (l.take lo ++ M ++ l.drop hi) := by simp [stV, List.map_append, List.map_take, List.map_drop]
  have ev : (vaV l).take lo ++ vaV M ++ (vaV l).drop hi = vaV (l.take lo ++ M ++ l.drop hi) := by simp [vaV, List.map_append, List.map_take, List.map_drop]
  refine Ex.cons ?_
  refine Ex1.setattr ?_
  refine Ev.splice (fun p H' Q q => Ev.local (by kernel_rfl) s1 q) (fun p H' Q q => Ev.local (by kernel_rfl) s3 q) (fun p H' Q q => Ev.local (by kernel_rfl) s4 q) (fun p H' Q q => Ev.local (by kernel_rfl) s5 q)
    (fun H' Q e q => Ga.own ok.RM (e _ _ g1) (e _ _ g2) (by decide) rfl rfl q) g3 w1 (by omega) (by omega) fun u H1 E1 y1 => ?_
  rw [es] at y1
  refine Ev.local (by kernel_rfl) s1 ?_
  refine ⟨x, _, d, _, _, _, _, _, rfl, ok.RM, E1 _ _ g1, E1 _ _ g2, by decide, by decide, ?_⟩
  show Ex _ _ _ (AH.put H1 d (.att (attPut (fR dflt.v bs bv) "starts" (.ref u)) 3)) _ _
  have nd : ∀ {z : Addr} {r}, H1 z = some (.list r) → z ≠ d := fun e q => by subst q; rw [E1 _ _ g2] at e; cases e
  have r1 : (AH.put H1 d (.att (attPut (fR dflt.v bs bv) "starts" (.ref u)) 3)) x = some (.inst a.RangeMap d) := by rw [AH.put_ne _ _ hxd]; exact E1 _ _ g1
  have r2 : (AH.put H1 d (.att (attPut (fR dflt.v bs bv) "starts" (.ref u)) 3)) d = some (.att (attPut (fR dflt.v bs bv) "starts" (.ref u)) 3) := AH.put_self _ _ _
  refine Ex.cons ?_
  refine Ex1.setattr ?_
  refine Ev.splice (fun p H' Q q => Ev.local (by kernel_rfl) s1 q) (fun p H' Q q => Ev.local (by kernel_rfl) s3 q) (fun p H' Q q => Ev.local (by kernel_rfl) s4 q) (fun p H' Q q => Ev.local (by kernel_rfl) s6 q)
    (fun H' Q e q => Ga.own ok.RM (e _ _ r1) (e _ _ r2) (by decide) rfl rfl q) ((AH.put_ne _ _ (nd (E1 _ _ g4))).trans (E1 _ _ g4)) ((AH.put_ne _ _ (nd (E1 _ _ w2))).trans (E1 _ _ w2)) (by omega) (by omega) fun v H2 E2 y2 => ?_
  rw [ev] at y2
  refine Ev.local (by kernel_rfl) s1 ?_
  refine ⟨x, _, d, _, _, _, _, _, rfl, ok.RM, E2 _ _ r1, E2 _ _ r2, by decide, by decide, ?_⟩
  have nd2 : ∀ {z : Addr} {r}, H2 z = some (.list r) → z ≠ d := fun e q => by subst q; rw [E2 _ _ r2] at e; cases e
  have y1' := E2 _ _ ((AH.put_ne _ _ (nd y1)).trans y1)
  refine Ex.nil (h _ ⟨?_, u, v, ?_, ?_, ?_⟩ (((E1.b.trans .put).trans E2.b).trans .put))
  · rw [AH.put_ne _ _ hxd]; exact E2 _ _ r1
  · rw [AH.put_self, ← fR_again (r := u) (r' := v) (bs := bs) (bv := bv)]; rfl
  · rw [AH.put_ne _ _ (nd2 y1')]; exact y1'
  · rw [AH.put_ne _ _ (nd2 y2)]; exact y2
end
theorem midOf_len {l f la s b} : (midOf l f la s b).length ≤ 2 := by
  unfold midOf
  have : ∀ m : List (Int × S), (m.drop 1).length ≤ m.length := fun m => by simp
  dsimp only
  split
  · split
    · refine Nat.le_trans (this _) ?_; split <;> simp
    · split <;> simp
  · split <;> simp
section
variable {G : Gl} {a : Ad} (ok : Ok G a) {A : Around} {H : AH} {Q : V → AH → Prop} {n : Nat}
include ok
set_option maxHeartbeats 2000000 in
theorem rm_put {x d : Addr} {dflt s : S} {l : List (Int × S)} {φ : Int → S} {f la : Int} (rm : Rm A (n + 10)) (m : RMd a H x d dflt l) (R : RW l φ) (h0 : 0 ≤ f) (h2 : la ≤ 1114111) (hz : l.length ≤ 1000)
    (h : ∀ H' l', RMd a H' x d dflt l' → ExtB d H H' → RW l' (fun k => if f ≤ k ∧ k ≤ la then s else φ k) → l'.length ≤ l.length + 2 → Q .none H') : Clc G A (.ref (a.rm 2)) [.ref x, .int f, .int la, s.v] H Q := by
  have m0 := m
  obtain ⟨g1, bs, bv, g2, g3, g4⟩ := m
  refine Clc.enter rm ok.rm2 rfl (by kernel_rfl) (by kernel_rfl) (by kernel_rfl) (by decide) fun env q code L => ?_
  have hxd : x ≠ d := fun q => by subst q; rw [g1] at g2; cases g2
  refine Ex.cons ?_
  repeat walk_at "ev"
  refine ⟨fun e => ?_, fun e => ?_⟩
  · have e : la < f := by simpa using e
    repeat walk_at "ev"
    refine h H l m0 (fun _ _ _ e => e) ?_ (by omega)
    have : (fun k => if f ≤ k ∧ k ≤ la then s else φ k) = φ := by
      funext k; rw [if_neg (by omega)]
    rw [this]; exact R
  have h1 : f ≤ la := by simpa using e
  obtain ⟨p, hp1, hp2, hi0, hiL⟩ := hiOf_last R (la := la) (by omega)
  have loL : loOf l f ≤ l.length := by have := cnt_le_len (l.map (·.1)) (f - 1); simpa [loOf] using this
  have lohi : loOf l f ≤ hiOf l la := cnt_mono _ (by omega)
  refine Ex.nil ?_
  refine Ex.cons ?_
  repeat walk_at "ev"
  refine c_place ok (l := l.map fun p : Int × S => p.1) ((rm.deeper env).to (n := n) (k := 1)) g3 R.srt ?_
  have elo : placeOf (l.map (·.1)) (f - 1) + 1 = (loOf l f : Int) := by unfold placeOf loOf cnt; omega
  repeat walk_at "ev"
  rw [elo]
  refine c_place ok (l := l.map fun p : Int × S => p.1) ((rm.deeper env).to (n := n) (k := 1)) g3 R.srt ?_
  have ehi : placeOf (l.map (·.1)) (la + 1) + 1 = (hiOf l la : Int) := by unfold placeOf hiOf cnt; omega
  repeat walk_at "ev"
  rw [ehi]
  have ehi1 : (hiOf l la : Int) - 1 = ((hiOf l la - 1 : Nat) : Int) := by omega
  rw [ehi1]
  refine Do.item g4 (by omega) (r := p.2.v) (by rw [Int.toNat_natCast]; unfold vaV; rw [List.getElem?_map, hp2]; rfl) ?_
  repeat walk_at "ev"
  refine Ex1.assignTS (names := ["starts", "values"]) ?_
  repeat walk_at "ev"
  intro b1 hb1
  repeat walk_at "ev"
  intro b2 hb2
  repeat walk_at "ev"
  refine ⟨on2 (by walk_at "own") (by walk_at "own"), ?_⟩
  have n1 : ∀ z o, H z = some o → z ≠ b1 := fun z o e q => by subst q; rw [hb1] at e; cases e
  have n21 : b2 ≠ b1 := fun q => by subst q; rw [AH.put_self] at hb2; cases hb2
  have hb2' : H b2 = none := by rwa [AH.put_ne _ _ n21] at hb2
  have n2 : ∀ z o, H z = some o → z ≠ b2 := fun z o e q => by subst q; rw [hb2'] at e; cases e
  show Ex _ _ (Lo.put (Lo.put _ "values" _) "starts" _) (AH.put (AH.put H b1 (.list [.int f])) b2 (.list [s.v])) _ _
  have E1 : Ext H (AH.put (AH.put H b1 (.list [.int f])) b2 (.list [s.v])) := (Ext.put hb1).trans (Ext.put hb2)
  refine Ex.cons (rp5 ok (rm.deeper env) (by walk_at "lo") (by walk_at "lo") (by walk_at "lo") (by walk_at "lo") (by walk_at "lo") n21 (f := f) (s := s) (t := p.2) (la := la) ((AH.put_ne _ _ n21.symm).trans (AH.put_self _ _ _)) (AH.put_self _ _ _) fun H2 E2 m1 m2 => ?_)
  have E2' : Ext H H2 := fun z o e => E2 z o (n1 z o e) (n2 z o e) (E1 _ _ e)
  clear E1 E2
  refine Ex.cons (rp6 ok (rm.deeper env) (lo := loOf l f) (by walk_at "lo") (by walk_at "lo") (by walk_at "lo") (by walk_at "lo") (by walk_at "lo") (E2' _ _ g1) (E2' _ _ g2) (E2' _ _ g4) loL m1 m2 fun σ3 H3 c1 c2 so E3 t4 t5 w1 w2 => ?_)
  rw [← midOf_eq] at w1 w2
  replace E3 := E2'.trans E3
  refine rp78 ok (rm.deeper env) (lo := loOf l f) (hi := hiOf l la) ((so _ (by decide) (by decide)).trans (by walk_at "lo")) ((so _ (by decide) (by decide)).trans (by walk_at "lo")) ((so _ (by decide) (by decide)).trans (by walk_at "lo")) t4 t5 hxd (E3 _ _ g1) (E3 _ _ g2) (E3 _ _ g3) (E3 _ _ g4) hz midOf_len w1 w2 fun H4 m4 E4 => ?_
  exact h _ (putRows l f la s p.2) m4 (E3.b.trans E4) (R.put h0 h1 h2 s p.2 (by rw [hp1]; rfl)) (putRows_len2 h1)
end
noncomputable def rowsOf : List (Int × S) → List (Int × Int × S)
  | [] => []
  | [(k, v)] => [(k, 1114111, v)]
  | (k, v) :: (k', v') :: t => (k, k' - 1, v) :: rowsOf ((k', v') :: t)
noncomputable def tv (r : Int × Int × S) : V := .tup [.int r.1, .int r.2.1, r.2.2.v]
theorem rowsOf_len : ∀ l, (rowsOf l).length = l.length
  | [] => rfl
  | [(k, v)] => rfl
  | (k, v) :: (k', v') :: t => by rw [rowsOf, List.length_cons, rowsOf_len ((k', v') :: t)]; rfl
theorem rowsOf_get : ∀ (l : List (Int × S)) (i : Nat), (rowsOf l)[i]? = (l[i]?).map fun p => (p.1, ((l[i + 1]?).map fun q => q.1 - 1).getD 1114111, p.2)
  | [], i => by simp [rowsOf]
  | [(k, v)], i => by
    cases i with
    | zero => rfl
    | succ i => simp [rowsOf]
  | (k, v) :: (k', v') :: t, i => by
    cases i with
    | zero => simp [rowsOf]
    | succ i => rw [rowsOf, List.getElem?_cons_succ, rowsOf_get ((k', v') :: t) i]; rfl
structure RowI (fo bs : Addr) (l : List (Int × S)) (H : AH) (i : Nat) (σ' : Lo) (H' : AH) : Prop where
  s1 : σ' "found" = some (.ref fo)
  s2 : σ' "starts" = some (.ref bs)
  hf : H' fo = some (.list (((rowsOf l).take i).map tv))
  hE : ExtB fo H H'
section
variable {G : Gl} {a : Ad} (ok : Ok G a) {A : Around} {H : AH} {Q : V → AH → Prop} {n : Nat}
include ok
theorem c_rows {x : Addr} {dflt : S} {l : List (Int × S)} (rm : Rm A (n + 3)) (m : RMap a H x dflt l) (hz : l.length ≤ 1000)
    (h : ∀ b H', H b = none → Ext H H' → H' b = some (.list ((rowsOf l).map tv)) → Q (.ref b) H') : Clc G A (.ref a.rows) [.ref x] H Q := by
  obtain ⟨d, bs, bv, g1, g2, g3, g4⟩ := m
  have ls : (stV l).length = l.length := by simp [stV]
  have lv : (vaV l).length = l.length := by simp [vaV]
  refine Clc.enter rm ok.rows rfl (by kernel_rfl) (by kernel_rfl) (by kernel_rfl) (by decide) fun env q code L => ?_
  refine Ex.cons ?_
  refine Ex1.assignTS (names := ["starts", "found"]) ?_
  repeat walk_at "ev"
  intro fo hfo
  repeat walk_at "ev"
  refine ⟨on2 (by walk_at "own") (by walk_at "own"), ?_⟩
  have nf : ∀ {z o}, H z = some o → z ≠ fo := fun e q => by subst q; rw [hfo] at e; cases e
  show Ex _ _ (Lo.put (Lo.put _ "found" (.ref fo)) "starts" (.ref bs)) (AH.put H fo (.list [])) _ _
  have E0 : Ext H (AH.put H fo (.list [])) := Ext.put hfo
  have k0 : (AH.put H fo (.list [])) fo = some (.list []) := AH.put_self _ _ _
  generalize (AH.put H fo (.list [])) = H1 at *
  have g1' := E0 _ _ g1
  have g2' := E0 _ _ g2
  have g4' := E0 _ _ g4
  refine Ex.cons ?_
  refine Ex1.for_ ?_
  refine Ei.enum ?_
  repeat walk_at "ev"
  refine Cl.enum g4' fun e it o hi he hne o1 o2 => ?_
  refine ⟨e, it, o, H1, bv, _, rfl, rfl, o1, o2, hi, he, hne, g4', ?_⟩
  refine ⟨RowI fo bs l H, ⟨by walk_at "lo", by walk_at "lo", k0, E0.b⟩, fun i σ' H' ⟨_, _, _, hE⟩ => hE _ _ (nf g4) g4, ?_, ?_⟩
  · rintro i w σ' H' hx ⟨s1, s2, hf, hE⟩
    have g3' := hE _ _ (nf g3) g3
    have hi : i < l.length := by have := (List.getElem?_eq_some_iff.mp hx).1; rw [pairsV_len, lv] at this; exact this
    have hp : l[i]? = some l[i] := List.getElem?_eq_getElem hi
    generalize l[i] = p at hp
    have hv : (vaV l)[i]? = some p.2.v := by unfold vaV; rw [List.getElem?_map, hp]; rfl
    have hw := pairsV_get hv
    rw [hx] at hw; cases hw
    have hst : (stV l)[i]? = some (.int p.1) := by unfold stV; rw [List.getElem?_map, List.getElem?_map, hp]; rfl
    have hlen : (rowsOf l).length = l.length := rowsOf_len l
    refine As.tg rfl (bo2 (by walk_at "own") (by walk_at "own")) ?_
    have es : ∀ z, σ'.puts [("at", .int i), ("value", p.2.v)] z = (Lo.put (Lo.put σ' "at" (.int i)) "value" p.2.v) z := fun _ => rfl
    have s3 : σ'.puts [("at", .int i), ("value", p.2.v)] "found" = some (.ref fo) := (es _).trans (by walk_at "lo")
    have s4 : σ'.puts [("at", .int i), ("value", p.2.v)] "starts" = some (.ref bs) := (es _).trans (by walk_at "lo")
    have s5 : σ'.puts [("at", .int i), ("value", p.2.v)] "at" = some (.int i) := (es _).trans (by walk_at "lo")
    have s6 : σ'.puts [("at", .int i), ("value", p.2.v)] "value" = some p.2.v := (es _).trans (by walk_at "lo")
    generalize σ'.puts [("at", .int i), ("value", p.2.v)] = σ2 at *
    refine Ex.cons ?_
    refine Ex1.cut (fun σ3 H3 => H3 = H' ∧ σ3 "found" = some (.ref fo) ∧ σ3 "starts" = some (.ref bs) ∧ σ3 "at" = some (.int i) ∧ σ3 "value" = some p.2.v ∧ σ3 "last" = some (.int (((l[i + 1]?).map fun q => q.1 - 1).getD 1114111))) ?_ ?_
    · refine Ex1.assign (by walk_at "own") ?_
      refine Ev.ifexp ?_
      repeat walk_at "ev"
      rw [ls]
      refine ⟨fun e2 => ?_, fun e2 => ?_⟩
      · have e2 : (i : Int) + 1 < l.length := by simpa using e2
        have e2 : i + 1 < l.length := by omega
        have hq : l[i + 1]? = some l[i + 1] := List.getElem?_eq_getElem e2
        generalize l[i + 1] = q at hq
        have hsq : (stV l)[i + 1]? = some (.int q.1) := by unfold stV; rw [List.getElem?_map, List.getElem?_map, hq]; rfl
        repeat walk_at "ev"
        refine Do.item g3' (by omega) (by rw [show ((i : Int) + 1).toNat = i + 1 by omega]; exact hsq) ?_
        repeat walk_at "ev"
        rw [hq]
        exact ⟨by walk_at "lo", by walk_at "lo", by walk_at "lo", by walk_at "lo", Lo.put_self _ _ _⟩
      · have e2 : l.length ≤ i + 1 := by have : (l.length : Int) ≤ (i : Int) + 1 := by simpa using e2
                                         omega
        repeat walk_at "ev"
        rw [List.getElem?_eq_none_iff.mpr e2]
        exact ⟨by walk_at "lo", by walk_at "lo", by walk_at "lo", by walk_at "lo", Lo.put_self _ _ _⟩
    rintro σ3 H3 ⟨rfl, t1, t2, t3, t4, t5⟩
    repeat walk_at "ev"
    refine Do.item g3' (by omega) (by rw [Int.toNat_natCast]; exact hst) ?_
    repeat walk_at "ev"
    refine Cl.append hf (by rw [List.length_map, List.length_take]; omega) ?_
    refine ⟨rfl, Ex.nil ?_⟩
    refine ⟨t1, t2, ?_, hE.trans .put⟩
    rw [AH.put_self, List.take_add_one, rowsOf_get, hp, List.map_append]
    rfl
  · rintro σ' H' ⟨s1, s2, hf, hE⟩
    rw [pairsV_len, lv, ← rowsOf_len, List.take_of_length_le (Nat.le_refl _)] at hf
    repeat walk_at "ev"
    exact h fo H' hfo (hE.new hfo) hf
end
open Classical in
theorem fm_of {α : Type} (enc : α → V) (inj : ∀ x y, enc x = enc y → x = y) (p : α → Bool) (g : α → V) : ∃ f : V → Option V, (∀ x, f (enc x) = if p x then some (g x) else none) ∧ ∀ rs : List α, (rs.map enc).filterMap f = (rs.filter p).map g := by
  have key : ∃ f : V → Option V, (∀ x, f (enc x) = if p x then some (g x) else none) := by
    refine ⟨fun v => if h : ∃ x, enc x = v then (if p h.choose then some (g h.choose) else none) else none, fun x => ?_⟩
    have hx : ∃ y, enc y = enc x := ⟨x, rfl⟩
    dsimp only
    rw [dif_pos hx, inj _ _ hx.choose_spec]
  obtain ⟨f, hf⟩ := key
  refine ⟨f, hf, fun rs => ?_⟩
  induction rs with
  | nil => rfl
  | cons r t ih =>
    rw [List.map_cons, List.filterMap_cons, hf, ih, List.filter_cons]
    by_cases q : p r = true
    · simp [q]
    · simp [q]
theorem S.inj {x y : S} (h : x.v = y.v) : x = y := by
  cases x <;> cases y <;> simp [S.v] at h <;> simp [h]
theorem tv_inj : ∀ x y, tv x = tv y → x = y := fun (a, b, s) (a', b', s') h => by
  simp [tv] at h
  rw [h.1, h.2.1, S.inj h.2.2]
theorem pv_inj : ∀ x y, pv x = pv y → x = y := fun (a, b) (a', b') h => by
  simp [pv] at h
  rw [h.1, h.2]
section
variable {G : Gl} {a : Ad} (ok : Ok G a) {A : Around} {H : AH} {Q : V → AH → Prop} {n : Nat}
include ok
local macro_rules | `(tactic| walk_at "ev") => `(tactic| with_reducible refine Ev.cell (x := Str.ofString "self") (by kernel_rfl) (by walk_at "lo") ?_)
theorem rm_ranges {x : Addr} {dflt : S} {l : List (Int × S)} (rm : Rm A (n + 10)) (m : RMap a H x dflt l) (hz : l.length ≤ 1000)
    (h : ∀ b H', H b = none → Ext H H' → H' b = some (.list (((rowsOf l).filter fun r => decide (r.2.2 ≠ dflt)).map tv)) → Q (.ref b) H') : Clc G A (.ref (a.rm 3)) [.ref x] H Q := by
  refine Clc.enter rm ok.rm3 rfl (by kernel_rfl) (by kernel_rfl) (by kernel_rfl) (by decide) fun env q code L => ?_
  refine Ex.cons ?_
  refine Ex1.ret ?_
  refine Ev.comp (CompOk.of (by kernel_rfl)) ?_
  refine Co.pure ?_
  refine Ei.list ?_
  repeat walk_at "ev"
  refine Clc.cl (c_rows ok ((rm.deeper env).to (n := n) (k := 3)) m hz fun b H1 hb E hb1 => ?_)
  obtain ⟨f, hf, hfm⟩ := fm_of tv tv_inj (fun r => decide (r.2.2 ≠ dflt)) tv
  have m1 := m.ext E
  obtain ⟨d, bs, bv, g1, g2, g3, g4⟩ := m1
  refine ⟨b, _, rfl, hb1, f, hb1, by rw [List.length_map, rowsOf_len]; omega, fun L w hw => ?_, ?_⟩
  · obtain ⟨r, hr, rfl⟩ := List.mem_map.mp hw
    refine ⟨[("row", .tup [.int r.1, .int r.2.1, r.2.2.v])], rfl, bl1 rfl, ?_⟩
    show Et _ _ _ _ _
    repeat walk_at "ev"
    refine Ga.own ok.RM g1 g2 (by decide) (by with_unfolding_all rfl) (S.plain dflt) ?_
    repeat walk_at "ev"
    refine Clc.cl (c_areLike ok (x := r.2.2) (y := dflt) (n := n) ((rm.deeper env).to) ?_)
    refine ⟨_, rfl, rfl, fun e => ?_, fun e => ?_⟩
    · have e : r.2.2 ≠ dflt := by simpa using e
      repeat walk_at "ev"
      rw [hf, if_pos (by simpa using e)]; rfl
    · have e : r.2.2 = dflt := by simpa using e
      rw [hf, if_neg (by simpa using e)]
  · rw [hfm]
    intro b2 hb2
    exact h b2 _ (E.none hb2) (E.trans (Ext.put hb2)) (AH.put_self _ _ _)
local macro_rules | `(tactic| walk_at "ev") => `(tactic| with_reducible first | refine Ev.cell (x := Str.ofString "value") (by kernel_rfl) (by walk_at "lo") ?_ | refine Ev.local (x := Str.ofString "self") (by kernel_rfl) (by walk_at "lo") ?_)
theorem rm_setof {x : Addr} {dflt s : S} {l : List (Int × S)} (rm : Rm A (n + 30)) (m : RMap a H x dflt l) (hz : l.length < 64)
    (h : ∀ y m H', Bd m (fun k => ∃ r ∈ rowsOf l, r.2.2 = s ∧ r.1 ≤ k ∧ k ≤ r.2.1) → m.length ≤ 2 * l.length → CSet a H' y m → Ext H H' → H y = none → Q (.ref y) H') : Clc G A (.ref (a.rm 4)) [.ref x, s.v] H Q := by
  refine Clc.enter rm ok.rm4 rfl (by kernel_rfl) (by kernel_rfl) (by kernel_rfl) (by decide) fun env q code L => ?_
  refine Ex.cons ?_
  refine Ex1.ret ?_
  repeat walk_at "ev"
  refine ⟨_, _, _, ok.of_ _ _, Fn.kp ok.cs1, ?_⟩
  refine Es.cons ?_
  refine Ev.comp (CompOk.of (by kernel_rfl)) ?_
  refine Co.pure ?_
  refine Ei.list ?_
  repeat walk_at "ev"
  refine Clc.cl (c_rows ok ((rm.deeper env).to (n := n) (k := 3)) m (by omega) fun b H1 hb E hb1 => ?_)
  obtain ⟨f, hf, hfm⟩ := fm_of tv tv_inj (fun r => decide (r.2.2 = s)) (fun r => pv (r.1, r.2.1))
  refine ⟨b, _, rfl, hb1, f, hb1, by rw [List.length_map, rowsOf_len]; omega, fun L w hw => ?_, ?_⟩
  · obtain ⟨r, hr, rfl⟩ := List.mem_map.mp hw
    refine ⟨[("first", .int r.1), ("last", .int r.2.1), ("one", r.2.2.v)], rfl, bl3 rfl rfl rfl, ?_⟩
    show Et _ _ _ _ _
    repeat walk_at "ev"
    refine Clc.cl (c_areLike ok (x := r.2.2) (y := s) (n := n) ((rm.deeper env).to) ?_)
    refine ⟨_, rfl, rfl, fun e => ?_, fun e => ?_⟩
    · have e : r.2.2 = s := by simpa using e
      repeat walk_at "ev"
      rw [hf, if_pos (by simpa using e)]
    · have e : ¬ r.2.2 = s := by simpa using e
      rw [hf, if_neg (by simpa using e)]
  · rw [hfm]
    intro b2 hb2
    refine Es.nil ?_
    have hl : ((rowsOf l).filter fun r => decide (r.2.2 = s)).length ≤ l.length := by rw [← rowsOf_len l]; exact List.length_filter_le _ _
    have em : (((rowsOf l).filter fun r => decide (r.2.2 = s)).map fun r => pv (r.1, r.2.1)) = ((((rowsOf l).filter fun r => decide (r.2.2 = s)).map fun r => (r.1, r.2.1)).map pv) := by rw [List.map_map]; rfl
    rw [em]
    refine Clc.cl (cs_of ok (n := n) ((rm.deeper env).to) (AH.put_self _ _ _) (by rw [List.length_map]; omega) fun y m H2 bd hm cy E2 hy => ?_)
    refine h y m H2 ?_ (by rw [List.length_map] at hm; omega) cy ((E.trans (Ext.put hb2)).trans E2) (E.none (Ext.none (Ext.put hb2) hy))
    have : (fun k => ∃ p ∈ (((rowsOf l).filter fun r => decide (r.2.2 = s)).map fun r => (r.1, r.2.1)), p.1 ≤ k ∧ k ≤ p.2) = fun k => ∃ r, r ∈ rowsOf l ∧ r.2.2 = s ∧ r.1 ≤ k ∧ k ≤ r.2.1 := by
      funext k
      refine propext ⟨fun ⟨p, hp, h1, h2⟩ => ?_, fun ⟨r, hr, he, h1, h2⟩ => ⟨(r.1, r.2.1), List.mem_map.mpr ⟨r, List.mem_filter.mpr ⟨hr, by simpa using he⟩, rfl⟩, h1, h2⟩⟩
      obtain ⟨r, hr, rfl⟩ := List.mem_map.mp hp
      obtain ⟨hr, he⟩ := List.mem_filter.mp hr
      exact ⟨r, hr, by simpa using he, h1, h2⟩
    rw [← this]; exact bd
end
theorem at_sto {K : Type} [DecidableEq K] (kvs : List (K × V)) (k k' : K) (v : V) : at? (sto kvs k v) k' = if k = k' then some v else at? kvs k' := by
  unfold sto
  by_cases q : kvs.any (fun kv => kv.1 = k) = true
  · rw [if_pos q]
    induction kvs with
    | nil => simp at q
    | cons p t ih =>
      unfold at? at ih ⊢
      rw [List.map_cons, List.find?_cons, List.find?_cons]
      by_cases h1 : p.1 = k
      · rw [if_pos h1]
        by_cases h2 : k = k'
        · have : p.1 = k' := h1.trans h2
          simp [this, h2]
        · have : ¬ p.1 = k' := fun e => h2 (h1.symm.trans e)
          simp only [this, decide_false, h2, if_false]
          by_cases q2 : t.any (fun kv => kv.1 = k) = true
          · have := ih q2; rw [if_neg h2] at this; exact this
          · have e : t.map (fun kv => if kv.1 = k then (kv.1, v) else kv) = t := by
              have : ∀ kv ∈ t, (if kv.1 = k then (kv.1, v) else kv) = kv := fun kv hkv => if_neg fun e => q2 (List.any_eq_true.mpr ⟨kv, hkv, by simpa using e⟩)
              exact (List.map_congr_left this).trans (List.map_id _)
            rw [e]
      · rw [if_neg h1]
        have q2 : t.any (fun kv => kv.1 = k) = true := by simpa [h1] using q
        by_cases h2 : p.1 = k'
        · have : ¬ k = k' := fun e => h1 (h2.trans e.symm)
          simp [h2, this]
        · simp only [h2, decide_false]
          exact ih q2
  · rw [if_neg q]
    unfold at?
    rw [List.find?_append]
    by_cases h2 : k = k'
    · subst h2
      have : kvs.find? (fun kv => decide (kv.1 = k)) = none := by
        rw [List.find?_eq_none]
        intro x hx e
        exact q (List.any_eq_true.mpr ⟨x, hx, e⟩)
      rw [this]; simp
    · simp [h2]
noncomputable def stos (kvs : List (Str × V)) (names : List Str) (r : V) : List (Str × V) := names.foldl (fun acc n => sto acc n r) kvs
theorem stos_len (r : V) : ∀ (names : List Str) (kvs : List (Str × V)), (stos kvs names r).length ≤ kvs.length + names.length
  | [], kvs => by simp [stos]
  | a :: t, kvs => by
    have h1 := stos_len r t (sto kvs a r)
    have h2 := sto_le kvs a r
    unfold stos at h1 ⊢
    simp only [List.foldl_cons, List.length_cons]
    omega
theorem Ex1.forC {C : Cx} {σ : Lo} {H : AH} {fo : Addr} {kvs : List (Str × V)} {names : List Str} {r : V} {iter body pos p} {Qn : Lo → AH → Prop} {Qr : V → AH → Prop}
    (hit : Ev C iter σ H fun v H' => H' = H ∧ v = .tup (names.map .str)) (s1 : σ "found" = some (.ref fo)) (h1 : H fo = some (.sd kvs)) (hl : kvs.length + names.length ≤ 100) (ow : Own C "name")
    (hb : ∀ n σ' H' kvs', σ' "found" = some (.ref fo) → σ' "name" = some (.str n) → H' fo = some (.sd kvs') → kvs'.length ≤ 100 → Ex C body σ' H' (fun σ'' H'' => σ'' = σ' ∧ H'' = H'.put fo (.sd (sto kvs' n r))) Qr)
    (h : ∀ σ' H', σ' "found" = some (.ref fo) → ExtB fo H H' → H' fo = some (.sd (stos kvs names r)) → Qn σ' H')
    (hs : ∀ x, foldedSetIterable iter C.env x = pure x := by intro _; with_unfolding_all rfl) : Ex1 C (.For (.Name "name" p) iter body [] pos) σ H Qn Qr := by
  refine Ex1.for_ (Ei.tuple (Ev.mono hit ?_)) hs
  rintro v H' ⟨rfl, rfl⟩
  refine ⟨_, rfl, fun i σ' H2 => σ' "found" = some (.ref fo) ∧ ExtB fo H' H2 ∧ H2 fo = some (.sd (stos kvs (names.take i) r)), ⟨s1, fun _ _ _ e => e, h1⟩, fun _ _ _ _ => trivial, ?_, ?_⟩
  · rintro i x σ' H2 hx ⟨t1, t2, t3⟩
    rw [List.getElem?_map, Option.map_eq_some_iff] at hx
    obtain ⟨nm, hn, rfl⟩ := hx
    refine As.name ow ?_
    have hlen := stos_len r (names.take i) kvs
    rw [List.length_take] at hlen
    have hi : i < names.length := (List.getElem?_eq_some_iff.mp hn).1
    refine Ex.mono (hb nm _ _ _ ((Lo.put_ne _ _ (by decide)).trans t1) (Lo.put_self _ _ _) t3 (by omega)) ?_ (fun _ _ x => x)
    rintro σ3 H3 ⟨rfl, rfl⟩
    refine ⟨(Lo.put_ne _ _ (by decide)).trans t1, t2.trans .put, ?_⟩
    rw [AH.put_self, List.take_add_one, hn]
    unfold stos
    rw [List.foldl_append]; rfl
  · rintro σ' H2 ⟨t1, t2, t3⟩
    rw [List.length_map, List.take_of_length_le (Nat.le_refl _)] at t3
    exact h σ' H2 t1 t2 t3
noncomputable def dk0 : List (Str × V) := merg [] [("gc", .str "Cn"), ("ccc", .int 0), ("bc", .str "L"), ("lb", .str "XX"), ("ea", .str "N"), ("sc", .str "Zzzz"), ("jt", .str "U"), ("incb", .str "None")]
noncomputable def dk1 : List (Str × V) := stos dk0 ["gcb", "wb", "sb"] (.str "Other")
noncomputable def dk2 : List (Str × V) := stos dk1 ["ex", "sd", "cased", "ci", "ep", "di", "ids", "idc", "xids", "xidc", "pat_syn", "pat_ws", "idst"] (.bool false)
noncomputable def dk3 : List (Str × V) := stos dk2 ["dm", "uc", "lc", "tc", "cf", "bm", "bpb", "scx", "nt", "nv", "name", "conf", "nfkc_cf"] .none
noncomputable def dk4 : List (Str × V) := stos dk3 ["suc", "slc", "stc", "alias"] (.tup [])
noncomputable def dkv : List (Str × V) := sto dk4 "idna" (.tup [.str "disallowed", .tup []])
theorem dk_len : dk0.length ≤ 8 ∧ dk1.length ≤ 11 ∧ dk2.length ≤ 24 ∧ dk3.length ≤ 37 ∧ dk4.length ≤ 41 ∧ dkv.length ≤ 42 := by
  have a0 : dk0.length ≤ 8 := merg_le _ _
  have a1 : dk1.length ≤ 11 := Nat.le_trans (stos_len _ _ _) (by simp; omega)
  have a2 : dk2.length ≤ 24 := Nat.le_trans (stos_len _ _ _) (by simp; omega)
  have a3 : dk3.length ≤ 37 := Nat.le_trans (stos_len _ _ _) (by simp; omega)
  have a4 : dk4.length ≤ 41 := Nat.le_trans (stos_len _ _ _) (by simp; omega)
  exact ⟨a0, a1, a2, a3, a4, Nat.le_trans (sto_le _ _ _) (by omega)⟩
theorem dk_get : at? dkv "sc" = some (.str "Zzzz") ∧ at? dkv "ccc" = some (.int 0) ∧ at? dkv "zz" = none ∧ at? dkv "gc" = some (.str "Cn") ∧ at? dkv "yy" = none ∧ at? dkv "ea" = some (.str "N") := by
  refine ⟨?_, ?_, ?_, ?_, ?_, ?_⟩ <;> kernel_rfl
section
variable {G : Gl} {a : Ad} (ok : Ok G a) {A : Around} {H : AH} {Q : V → AH → Prop} {n : Nat}
include ok
set_option maxHeartbeats 4000000 in
theorem c_defaults (rm : Rm A (n + 3)) (h : ∀ b H', H b = none → Ext H H' → H' b = some (.sd dkv) → Q (.ref b) H') : Clc G A (.ref a.defaults) [] H Q := by
  obtain ⟨a0, a1, a2, a3, a4, _⟩ := dk_len
  refine Clc.enter rm ok.defaults rfl (by kernel_rfl) (by kernel_rfl) (by kernel_rfl) (by decide) fun env q code L => ?_
  refine Ex.cons ?_
  walk_at "ev"
  refine Ev.dictS ?_ ?_ ?_ ?_ ?_
  · rfl
  · rfl
  · exact List.cons_ne_nil _ _
  · exact Nat.le_of_ble_eq_true rfl
  iterate 8 (refine Ed.consS ?_; refine Ev.str ?_; refine ⟨_, rfl, ?_⟩; first | refine Ev.str ?_ | refine Ev.int ?_)
  refine Ed.nil ?_
  refine ⟨by simp, fun fo hfo => ?_⟩
  have s1 : ∀ {σ : Lo}, (σ.put "found" (.ref fo)) "found" = some (.ref fo) := Lo.put_self _ _ _
  show Ex _ _ (Lo.put _ "found" (.ref fo)) (AH.put H fo (.sd dk0)) _ _
  have E0 : ExtB fo H (AH.put H fo (.sd dk0)) := .put
  have k0 : (AH.put H fo (.sd dk0)) fo = some (.sd dk0) := AH.put_self _ _ _
  generalize (AH.put H fo (.sd dk0)) = H0 at *
  refine Ex.cons ?_
  with_reducible refine Ex1.forC (fo := fo) (kvs := dk0) (names := ["gcb", "wb", "sb"]) (r := .str "Other") ?_ s1 k0 ?_ ?_ ?_ ?_ ?_
  rotate_left
  · simp; omega
  · walk_at "own"
  rotate_left 2
  · intro _; with_unfolding_all rfl
  · with_reducible refine Ev.tuple ?_
    iterate 20 (first | (with_reducible refine Es.cons ?_; with_reducible refine Ev.str ?_) | skip)
    with_reducible refine Es.nil ?_
    refine ⟨?_, rfl, rfl⟩
    simp
  · intro nm σ' H' kvs' t1 t2 t3 t4
    refine Ex.cons ?_
    refine Ex1.setitem ?_
    repeat walk_at "ev"
    refine Si.str t3 (by omega) ?_
    refine Ex.nil ⟨rfl, rfl⟩
  intro σ' H' t1 E t2
  replace E0 := E0.trans E
  change H' fo = some (.sd dk1) at t2
  clear E
  refine Ex.cons ?_
  with_reducible refine Ex1.forC (fo := fo) (kvs := dk1) (names := ["ex", "sd", "cased", "ci", "ep", "di", "ids", "idc", "xids", "xidc", "pat_syn", "pat_ws", "idst"]) (r := .bool false) ?_ t1 t2 ?_ ?_ ?_ ?_ ?_
  rotate_left
  · simp; omega
  · walk_at "own"
  rotate_left 2
  · intro _; with_unfolding_all rfl
  · with_reducible refine Ev.tuple ?_
    iterate 20 (first | (with_reducible refine Es.cons ?_; with_reducible refine Ev.str ?_) | skip)
    with_reducible refine Es.nil ?_
    refine ⟨?_, rfl, rfl⟩
    simp
  · intro nm σ' H' kvs' t1 t2 t3 t4
    refine Ex.cons ?_
    refine Ex1.setitem ?_
    repeat walk_at "ev"
    refine Si.str t3 (by omega) ?_
    refine Ex.nil ⟨rfl, rfl⟩
  intro σ' H' t1 E t2
  replace E0 := E0.trans E
  change H' fo = some (.sd dk2) at t2
  clear E
  refine Ex.cons ?_
  with_reducible refine Ex1.forC (fo := fo) (kvs := dk2) (names := ["dm", "uc", "lc", "tc", "cf", "bm", "bpb", "scx", "nt", "nv", "name", "conf", "nfkc_cf"]) (r := .none) ?_ t1 t2 ?_ ?_ ?_ ?_ ?_
  rotate_left
  · simp; omega
  · walk_at "own"
  rotate_left 2
  · intro _; with_unfolding_all rfl
  · with_reducible refine Ev.tuple ?_
    iterate 20 (first | (with_reducible refine Es.cons ?_; with_reducible refine Ev.str ?_) | skip)
    with_reducible refine Es.nil ?_
    refine ⟨?_, rfl, rfl⟩
    simp
  · intro nm σ' H' kvs' t1 t2 t3 t4
    refine Ex.cons ?_
    refine Ex1.setitem ?_
    repeat walk_at "ev"
    refine Si.str t3 (by omega) ?_
    refine Ex.nil ⟨rfl, rfl⟩
  intro σ' H' t1 E t2
  replace E0 := E0.trans E
  change H' fo = some (.sd dk3) at t2
  clear E
  refine Ex.cons ?_
  with_reducible refine Ex1.forC (fo := fo) (kvs := dk3) (names := ["suc", "slc", "stc", "alias"]) (r := .tup []) ?_ t1 t2 ?_ ?_ ?_ ?_ ?_
  rotate_left
  · simp; omega
  · walk_at "own"
  rotate_left 2
  · intro _; with_unfolding_all rfl
  · with_reducible refine Ev.tuple ?_
    iterate 20 (first | (with_reducible refine Es.cons ?_; with_reducible refine Ev.str ?_) | skip)
    with_reducible refine Es.nil ?_
    refine ⟨?_, rfl, rfl⟩
    simp
  · intro nm σ' H' kvs' t1 t2 t3 t4
    refine Ex.cons ?_
    refine Ex1.setitem ?_
    repeat walk_at "ev"
    refine Si.str t3 (by omega) ?_
    refine Ex.nil ⟨rfl, rfl⟩
  intro σ' H' t1 E t2
  replace E0 := E0.trans E
  change H' fo = some (.sd dk4) at t2
  clear E
  refine Ex.cons ?_
  refine Ex1.setitem ?_
  repeat walk_at "ev"
  refine Si.str t2 (by omega) ?_
  have k5 : (AH.put H' fo (.sd (sto dk4 "idna" (.tup [.str "disallowed", .tup []])))) fo = some (.sd dkv) := AH.put_self _ _ _
  replace E0 := E0.trans (.put (o := (.sd (sto dk4 "idna" (.tup [.str "disallowed", .tup []])))))
  repeat walk_at "ev"
  exact h fo _ hfo (E0.new hfo) k5
end
noncomputable def fD (dd dm p w : Addr) : Str → Option V := attPut (attPut (attPut (attPut (fun _ => none) "defaults" (.ref dd)) "maps" (.ref dm)) "properties" (.ref p)) "words" (.ref w)
noncomputable def DAt (a : Ad) (H : AH) (x dm : Addr) : Prop := ∃ d dd p w, H x = some (.inst a.Data d) ∧ H d = some (.att (fD dd dm p w) 4) ∧ H dd = some (.sd dkv) ∧ dd ≠ dm
theorem DAt.ext {a H H' x dm} (h : DAt a H x dm) (e : Ext H H') : DAt a H' x dm := by
  obtain ⟨d, dd, p, w, h1, h2, h3, h4⟩ := h
  exact ⟨d, dd, p, w, e _ _ h1, e _ _ h2, e _ _ h3, h4⟩
theorem DAt.extM {a H H' x dm l} (h : DAt a H x dm) (e : ExtB dm H H') (hm : H dm = some (.sd l)) : DAt a H' x dm := by
  obtain ⟨d, dd, p, w, h1, h2, h3, h4⟩ := h
  exact ⟨d, dd, p, w, e _ _ (fun q => by subst q; rw [h1] at hm; cases hm) h1, e _ _ (fun q => by subst q; rw [h2] at hm; cases hm) h2, e _ _ h4 h3, h4⟩
theorem DAt.extA {a H H' x dm b f} (h : DAt a H x dm) (e : ExtB b H H') (hb : H b = some (.att f 3)) : DAt a H' x dm := by
  obtain ⟨d, dd, p, w, h1, h2, h3, h4⟩ := h
  exact ⟨d, dd, p, w, e _ _ (fun q => by subst q; rw [h1] at hb; cases hb) h1, e _ _ (fun q => by subst q; rw [h2] at hb; cases hb) h2, e _ _ (fun q => by subst q; rw [h3] at hb; cases hb) h3, h4⟩
theorem RMd.extM {a H H' x d dflt l dm s} (h : RMd a H x d dflt l) (e : ExtB dm H H') (hm : H dm = some (.sd s)) : RMd a H' x d dflt l := by
  obtain ⟨h1, bs, bv, h2, h3, h4⟩ := h
  exact ⟨e _ _ (fun q => by subst q; rw [h1] at hm; cases hm) h1, bs, bv, e _ _ (fun q => by subst q; rw [h2] at hm; cases hm) h2, e _ _ (fun q => by subst q; rw [h3] at hm; cases hm) h3, e _ _ (fun q => by subst q; rw [h4] at hm; cases hm) h4⟩
theorem RMd.extA {a H H' x d dflt l b f n} (h : RMd a H x d dflt l) (e : ExtB b H H') (hb : H b = some (.att f n)) (ne : d ≠ b) : RMd a H' x d dflt l := by
  obtain ⟨h1, bs, bv, h2, h3, h4⟩ := h
  exact ⟨e _ _ (fun q => by subst q; rw [h1] at hb; cases hb) h1, bs, bv, e _ _ ne h2, e _ _ (fun q => by subst q; rw [h3] at hb; cases hb) h3, e _ _ (fun q => by subst q; rw [h4] at hb; cases hb) h4⟩
theorem at_sto_self {kvs : List (Str × V)} {k : Str} {r : V} : at? (sto kvs k r) k = some r := by
  rw [at_sto, if_pos rfl]
section
variable {G : Gl} {a : Ad} (ok : Ok G a) {A : Around} {H : AH} {Q : V → AH → Prop} {n : Nat}
include ok
set_option maxHeartbeats 1000000 in
theorem da_make (rm : Rm A (n + 6)) (h : ∀ x dm H', DAt a H' x dm → H' dm = some (.sd []) → Ext H H' → H x = none → H dm = none → Q (.ref x) H') : Cl G A (.ref a.Data) [] H Q := by
  refine Cl.make (n := n + 5) rm ok.DA fun A' x d rm' hx hd hne => ?_
  refine Clc.enter (n := n + 4) rm' ok.da0 rfl (by kernel_rfl) (by kernel_rfl) (by kernel_rfl) (by decide) fun env q code L => ?_
  have h1 : (AH.put (AH.put H d (.att (fun _ => none) 0)) x (.inst a.Data d)) x = some (.inst a.Data d) := AH.put_self _ _ _
  have h2 : (AH.put (AH.put H d (.att (fun _ => none) 0)) x (.inst a.Data d)) d = some (.att (fun _ => none) 0) := by rw [AH.put_ne _ _ hne.symm, AH.put_self]
  have E : ExtB d H (AH.put (AH.put H d (.att (fun _ => none) 0)) x (.inst a.Data d)) := ((Ext.put hd).put' hx).b
  generalize (AH.put (AH.put H d (.att (fun _ => none) 0)) x (.inst a.Data d)) = H1 at *
  refine Ex.cons ?_
  refine Ex1.setattr ?_
  repeat walk_at "ev"
  refine Clc.cl (c_defaults ok (n := n) ((rm'.deeper env).to) fun dd H2 hdd E2 h3 => ?_)
  repeat walk_at "ev"
  have ndd : dd ≠ d := fun q => by subst q; rw [h2] at hdd; cases hdd
  refine ⟨x, _, d, _, _, _, _, _, rfl, ok.DA, E2 _ _ h1, E2 _ _ h2, by decide, by decide, ?_⟩
  have h1 : (AH.put H2 d (.att (attPut (fun _ => none) "defaults" (.ref dd)) 1)) x = some (.inst a.Data d) := by rw [AH.put_ne _ _ hne]; exact E2 _ _ h1
  have h2 : (AH.put H2 d (.att (attPut (fun _ => none) "defaults" (.ref dd)) 1)) d = some (.att (attPut (fun _ => none) "defaults" (.ref dd)) 1) := AH.put_self _ _ _
  have h3 : (AH.put H2 d (.att (attPut (fun _ => none) "defaults" (.ref dd)) 1)) dd = some (.sd dkv) := by rw [AH.put_ne _ _ ndd]; exact h3
  have E : ExtB d H (AH.put H2 d (.att (attPut (fun _ => none) "defaults" (.ref dd)) 1)) := (E.trans E2.b).trans .put
  show Ex _ _ _ (AH.put H2 d (.att (attPut (fun _ => none) "defaults" (.ref dd)) 1)) _ _
  clear E2
  generalize (AH.put H2 d (.att (attPut (fun _ => none) "defaults" (.ref dd)) 1)) = H3 at *
  refine Ex.cons ?_
  refine Ex1.setattr ?_
  refine Ev.dict0s fun dm hdm => ?_
  repeat walk_at "ev"
  have ndm : dm ≠ d := fun q => by subst q; rw [h2] at hdm; cases hdm
  have nddm : dd ≠ dm := fun q => by subst q; rw [h3] at hdm; cases hdm
  have hdm0 : H dm = none := by
    cases q : H dm with
    | none => rfl
    | some o => rw [E _ _ ndm q] at hdm; cases hdm
  refine ⟨x, _, d, _, _, _, _, _, rfl, ok.DA, Ext.put hdm _ _ h1, Ext.put hdm _ _ h2, by decide, by decide, ?_⟩
  show Ex _ _ _ (AH.put (AH.put H3 dm (.sd [])) d (.att (attPut (attPut (fun _ => none) "defaults" (.ref dd)) "maps" (.ref dm)) 2)) _ _
  have E : ExtB d H (AH.put (AH.put H3 dm (.sd [])) d (.att (attPut (attPut (fun _ => none) "defaults" (.ref dd)) "maps" (.ref dm)) 2)) := (E.trans (Ext.put hdm).b).trans .put
  have h1 : (AH.put (AH.put H3 dm (.sd [])) d (.att (attPut (attPut (fun _ => none) "defaults" (.ref dd)) "maps" (.ref dm)) 2)) x = some (.inst a.Data d) := by rw [AH.put_ne _ _ hne]; exact Ext.put hdm _ _ h1
  have h2 : (AH.put (AH.put H3 dm (.sd [])) d (.att (attPut (attPut (fun _ => none) "defaults" (.ref dd)) "maps" (.ref dm)) 2)) d = some (.att (attPut (attPut (fun _ => none) "defaults" (.ref dd)) "maps" (.ref dm)) 2) := AH.put_self _ _ _
  have h3 : (AH.put (AH.put H3 dm (.sd [])) d (.att (attPut (attPut (fun _ => none) "defaults" (.ref dd)) "maps" (.ref dm)) 2)) dd = some (.sd dkv) := by rw [AH.put_ne _ _ ndd]; exact Ext.put hdm _ _ h3
  have h4 : (AH.put (AH.put H3 dm (.sd [])) d (.att (attPut (attPut (fun _ => none) "defaults" (.ref dd)) "maps" (.ref dm)) 2)) dm = some (.sd []) := by rw [AH.put_ne _ _ ndm]; exact AH.put_self _ _ _
  generalize (AH.put (AH.put H3 dm (.sd [])) d (.att (attPut (attPut (fun _ => none) "defaults" (.ref dd)) "maps" (.ref dm)) 2)) = H4 at *
  refine Ex.cons ?_
  refine Ex1.setattr ?_
  refine Ev.dict0s fun p hp => ?_
  repeat walk_at "ev"
  refine ⟨x, _, d, _, _, _, _, _, rfl, ok.DA, Ext.put hp _ _ h1, Ext.put hp _ _ h2, by decide, by decide, ?_⟩
  show Ex _ _ _ (AH.put (AH.put H4 p (.sd [])) d (.att (attPut (attPut (attPut (fun _ => none) "defaults" (.ref dd)) "maps" (.ref dm)) "properties" (.ref p)) 3)) _ _
  have E : ExtB d H (AH.put (AH.put H4 p (.sd [])) d (.att (attPut (attPut (attPut (fun _ => none) "defaults" (.ref dd)) "maps" (.ref dm)) "properties" (.ref p)) 3)) := (E.trans (Ext.put hp).b).trans .put
  have h1 : (AH.put (AH.put H4 p (.sd [])) d (.att (attPut (attPut (attPut (fun _ => none) "defaults" (.ref dd)) "maps" (.ref dm)) "properties" (.ref p)) 3)) x = some (.inst a.Data d) := by rw [AH.put_ne _ _ hne]; exact Ext.put hp _ _ h1
  have h2 : (AH.put (AH.put H4 p (.sd [])) d (.att (attPut (attPut (attPut (fun _ => none) "defaults" (.ref dd)) "maps" (.ref dm)) "properties" (.ref p)) 3)) d = some (.att (attPut (attPut (attPut (fun _ => none) "defaults" (.ref dd)) "maps" (.ref dm)) "properties" (.ref p)) 3) := AH.put_self _ _ _
  have h3 : (AH.put (AH.put H4 p (.sd [])) d (.att (attPut (attPut (attPut (fun _ => none) "defaults" (.ref dd)) "maps" (.ref dm)) "properties" (.ref p)) 3)) dd = some (.sd dkv) := by rw [AH.put_ne _ _ ndd]; exact Ext.put hp _ _ h3
  have h4 : (AH.put (AH.put H4 p (.sd [])) d (.att (attPut (attPut (attPut (fun _ => none) "defaults" (.ref dd)) "maps" (.ref dm)) "properties" (.ref p)) 3)) dm = some (.sd []) := by rw [AH.put_ne _ _ ndm]; exact Ext.put hp _ _ h4
  generalize (AH.put (AH.put H4 p (.sd [])) d (.att (attPut (attPut (attPut (fun _ => none) "defaults" (.ref dd)) "maps" (.ref dm)) "properties" (.ref p)) 3)) = H5 at *
  refine Ex.cons ?_
  refine Ex1.setattr ?_
  refine Ev.dict0s fun w hw => ?_
  repeat walk_at "ev"
  refine ⟨x, _, d, _, _, _, _, _, rfl, ok.DA, Ext.put hw _ _ h1, Ext.put hw _ _ h2, by decide, by decide, ?_⟩
  refine Ex.nil ?_
  refine ⟨rfl, ?_⟩
  refine h x dm _ ⟨d, dd, p, w, ?_, ?_, ?_, nddm⟩ ?_ (ExtB.new ((E.trans (Ext.put hw).b).trans .put) hd) hx hdm0
  · rw [AH.put_ne _ _ hne]; exact Ext.put hw _ _ h1
  · rw [AH.put_self]; rfl
  · rw [AH.put_ne _ _ ndd]; exact Ext.put hw _ _ h3
  · rw [AH.put_ne _ _ ndm]; exact Ext.put hw _ _ h4

theorem da_get {x dm mx : Addr} {nm : Str} {kvs : List (Str × V)} {dflt : S} {l : List (Int × S)} {φ : Int → S} {k : Int} (rm : Rm A (n + 5)) (D : DAt a H x dm) (hm : H dm = some (.sd kvs)) (e : at? kvs nm = some (.ref mx)) (m : RMap a H mx dflt l) (R : RW l φ)
    (h0 : 0 ≤ k) (hk : k ≤ 1114111) (h : Q (φ k).v H) : Clc G A (.ref (a.da 2)) [.ref x, .str nm, .int k] H Q := by
  obtain ⟨d, dd, p, w, h1, h2, h3, h4⟩ := D
  have m0 := m
  obtain ⟨md, bs, bv, g1, g2, g3, g4⟩ := m
  refine Clc.enter rm ok.da2 rfl (by kernel_rfl) (by kernel_rfl) (by kernel_rfl) (by decide) fun env q code L => ?_
  refine Ex.cons ?_
  repeat walk_at "ev"
  refine Do.inS hm ?_
  refine ⟨_, rfl, fun _ => ?_, fun e' => ?_⟩
  · repeat walk_at "ev"
    refine Do.getS hm e ?_
    refine ⟨_, _, _, Gm.inst ok.RM g1 g2 rfl rfl, ok.rm1.kp, ?_⟩
    repeat walk_at "ev"
    exact Clc.cl (rm_get ok (n := n + 1) ((rm.deeper env).le (by omega)) m0 R h0 hk h)
  · rw [e] at e'; cases e'
theorem da_getD {x dm : Addr} {nm : Str} {kvs : List (Str × V)} {k : V} (rm : Rm A (n + 5)) (D : DAt a H x dm) (hm : H dm = some (.sd kvs)) (e : at? kvs nm = none)
    (h : Q ((at? dkv nm).getD .none) H) : Clc G A (.ref (a.da 2)) [.ref x, .str nm, k] H Q := by
  obtain ⟨d, dd, p, w, h1, h2, h3, h4⟩ := D
  refine Clc.enter rm ok.da2 rfl (by kernel_rfl) (by kernel_rfl) (by kernel_rfl) (by decide) fun env q code L => ?_
  refine Ex.cons ?_
  repeat walk_at "ev"
  refine Do.inS hm ?_
  refine ⟨_, rfl, fun e' => ?_, fun _ => ?_⟩
  · rw [e] at e'; cases e'
  · refine Ex.nil ?_
    refine Ex.cons ?_
    repeat walk_at "ev"
    refine ⟨_, _, _, Gm.getS h3, Kp.builtin, ?_⟩
    repeat walk_at "ev"
    exact Cl.getS h3 h
theorem da_mapOf {x dm mx : Addr} {nm : Str} {kvs : List (Str × V)} (rm : Rm A (n + 5)) (D : DAt a H x dm) (hm : H dm = some (.sd kvs)) (e : at? kvs nm = some (.ref mx)) (h : Q (.ref mx) H) : Clc G A (.ref (a.da 3)) [.ref x, .str nm] H Q := by
  obtain ⟨d, dd, p, w, h1, h2, h3, h4⟩ := D
  refine Clc.enter rm ok.da3 rfl (by kernel_rfl) (by kernel_rfl) (by kernel_rfl) (by decide) fun env q code L => ?_
  refine Ex.cons ?_
  repeat walk_at "ev"
  refine Do.notInS hm ?_
  refine ⟨_, rfl, fun e' => ?_, fun _ => ?_⟩
  · rw [e] at e'; cases e'
  · refine Ex.nil ?_
    refine Ex.cons ?_
    repeat walk_at "ev"
    exact Do.getS hm e h
theorem da_mapNew {x dm : Addr} {nm : Str} {kvs : List (Str × V)} {dflt : S} (rm : Rm A (n + 6)) (D : DAt a H x dm) (hm : H dm = some (.sd kvs)) (hz : kvs.length ≤ 1000) (e : at? kvs nm = none) (ed : (at? dkv nm).getD .none = dflt.v)
    (h : ∀ mx dx H', RMd a H' mx dx dflt [(0, dflt)] → H' dm = some (.sd (sto kvs nm (.ref mx))) → ExtB dm H H' → H mx = none → H dx = none → Q (.ref mx) H') : Clc G A (.ref (a.da 3)) [.ref x, .str nm] H Q := by
  obtain ⟨d, dd, p, w, h1, h2, h3, h4⟩ := D
  refine Clc.enter rm ok.da3 rfl (by kernel_rfl) (by kernel_rfl) (by kernel_rfl) (by decide) fun env q code L => ?_
  refine Ex.cons ?_
  repeat walk_at "ev"
  refine Do.notInS hm ?_
  refine ⟨_, rfl, fun _ => ?_, fun e' => ?_⟩
  · refine Ex.cons ?_
    refine Ex1.setitem ?_
    repeat walk_at "ev"
    refine ⟨_, _, _, Gm.getS h3, Kp.builtin, ?_⟩
    repeat walk_at "ev"
    refine Cl.getS h3 ?_
    rw [ed]
    repeat walk_at "ev"
    refine rm_make ok (n := n + 2) (dflt := dflt) ((rm.deeper env).le (by omega)) fun mx dx H1 m1 E1 hmx hdx => ?_
    have h1' := E1 _ _ h1
    have h2' := E1 _ _ h2
    have hm' := E1 _ _ hm
    repeat walk_at "ev"
    refine Si.str hm' (by omega) ?_
    refine Ex.nil ?_
    have h1'' : (AH.put H1 dm (.sd (sto kvs nm (.ref mx)))) x = some (.inst a.Data d) := by rw [AH.put_ne _ _ (fun q => by subst q; rw [h1'] at hm'; cases hm')]; exact h1'
    have h2'' : (AH.put H1 dm (.sd (sto kvs nm (.ref mx)))) d = some (.att (fD dd dm p w) 4) := by rw [AH.put_ne _ _ (fun q => by subst q; rw [h2'] at hm'; cases hm')]; exact h2'
    have hm'' : (AH.put H1 dm (.sd (sto kvs nm (.ref mx)))) dm = some (.sd (sto kvs nm (.ref mx))) := AH.put_self _ _ _
    refine Ex.cons ?_
    repeat walk_at "ev"
    refine Do.getS hm'' at_sto_self ?_
    exact h mx dx _ (m1.extM .put hm') hm'' (E1.b.trans .put) hmx hdx
  · rw [e] at e'; cases e'

theorem da_put {x dm mx dx : Addr} {nm : Str} {kvs : List (Str × V)} {dflt s : S} {l : List (Int × S)} {φ : Int → S} {f la : Int} (rm : Rm A (n + 12)) (D : DAt a H x dm) (hm : H dm = some (.sd kvs)) (e : at? kvs nm = some (.ref mx)) (m : RMd a H mx dx dflt l) (R : RW l φ)
    (h0 : 0 ≤ f) (h2 : la ≤ 1114111) (hz : l.length ≤ 1000)
    (h : ∀ H' l', RMd a H' mx dx dflt l' → ExtB dx H H' → RW l' (fun k => if f ≤ k ∧ k ≤ la then s else φ k) → l'.length ≤ l.length + 2 → Q .none H') : Clc G A (.ref (a.da 1)) [.ref x, .str nm, .int f, .int la, s.v] H Q := by
  have D0 := D
  obtain ⟨d, dd, p, w, h1, hd2, h3, h4⟩ := D
  have m0 := m
  obtain ⟨g1, bs, bv, g2, g3, g4⟩ := m
  refine Clc.enter rm ok.da1 rfl (by kernel_rfl) (by kernel_rfl) (by kernel_rfl) (by decide) fun env q code L => ?_
  refine Ex.cons ?_
  refine Ex1.expr ?_
  refine Ev.meth1 ?_
  refine Ev.meth1 ?_
  repeat walk_at "ev"
  refine ⟨_, _, _, Gm.inst ok.DA h1 hd2 rfl rfl, ok.da3.kp, ?_⟩
  repeat walk_at "ev"
  refine Clc.cl (da_mapOf ok (n := n) ((rm.deeper env).to) D0 hm e ?_)
  refine ⟨_, _, _, Gm.inst ok.RM g1 g2 rfl rfl, ok.rm2.kp, ?_⟩
  repeat walk_at "ev"
  refine Clc.cl (rm_put ok (n := n + 1) ((rm.deeper env).le (by omega)) m0 R h0 h2 hz fun H' l' m' E R' hl => ?_)
  refine ⟨rfl, ?_⟩
  refine Ex.nil ?_
  exact h H' l' m' E R' hl
theorem da_putNew {x dm : Addr} {nm : Str} {kvs : List (Str × V)} {dflt s : S} {f la : Int} (rm : Rm A (n + 12)) (D : DAt a H x dm) (hm : H dm = some (.sd kvs)) (hk : kvs.length ≤ 1000) (e : at? kvs nm = none) (ed : (at? dkv nm).getD .none = dflt.v)
    (h0 : 0 ≤ f) (h2 : la ≤ 1114111)
    (h : ∀ mx dx H' l', RMd a H' mx dx dflt l' → H' dm = some (.sd (sto kvs nm (.ref mx))) → ExtB dm H H' → H mx = none → H dx = none → RW l' (fun k => if f ≤ k ∧ k ≤ la then s else dflt) → l'.length ≤ 3 → Q .none H') :
    Clc G A (.ref (a.da 1)) [.ref x, .str nm, .int f, .int la, s.v] H Q := by
  have D0 := D
  obtain ⟨d, dd, p, w, h1, hd2, h3, h4⟩ := D
  refine Clc.enter rm ok.da1 rfl (by kernel_rfl) (by kernel_rfl) (by kernel_rfl) (by decide) fun env q code L => ?_
  refine Ex.cons ?_
  refine Ex1.expr ?_
  refine Ev.meth1 ?_
  refine Ev.meth1 ?_
  repeat walk_at "ev"
  refine ⟨_, _, _, Gm.inst ok.DA h1 hd2 rfl rfl, ok.da3.kp, ?_⟩
  repeat walk_at "ev"
  refine Clc.cl (da_mapNew ok (n := n + 1) ((rm.deeper env).le (by omega)) D0 hm hk e ed fun mx dx H1 m1 hm1 E1 hmx hdx => ?_)
  have m0 := m1
  obtain ⟨g1, bs, bv, g2, g3, g4⟩ := m1
  refine ⟨_, _, _, Gm.inst ok.RM g1 g2 rfl rfl, ok.rm2.kp, ?_⟩
  repeat walk_at "ev"
  refine Clc.cl (rm_put ok (n := n + 1) ((rm.deeper env).le (by omega)) m0 (RW.init dflt) h0 h2 (by simp) fun H' l' m' E R' hl => ?_)
  refine ⟨rfl, ?_⟩
  refine Ex.nil ?_
  refine h mx dx H' l' m' (E _ _ (fun q => by subst q; rw [g2] at hm1; cases hm1) hm1) ?_ hmx hdx R' (by simpa using hl)
  intro z o nz ez
  exact E _ _ (fun q => by subst q; rw [hdx] at ez; cases ez) (E1 _ _ nz ez)
end
noncomputable def ExtL (L : List Addr) (H H' : AH) : Prop := ∀ a o, a ∉ L → H a = some o → H' a = some o
theorem Ext.l {H H' : AH} {L} (x : Ext H H') : ExtL L H H' := fun a o _ e => x a o e
theorem ExtB.l {H H' : AH} {b} {L : List Addr} (x : ExtB b H H') (h : b ∈ L) : ExtL L H H' := fun a o n e => x a o (fun q => n (q ▸ h)) e
theorem ExtL.trans {L} {H H' H'' : AH} (x : ExtL L H H') (y : ExtL L H' H'') : ExtL L H H'' := fun a o n e => y a o n (x a o n e)
theorem ExtL.le {L L' : List Addr} {H H' : AH} (x : ExtL L H H') (h : ∀ a ∈ L, a ∈ L') : ExtL L' H H' := fun a o n e => x a o (fun q => n (h a q)) e
noncomputable def AH.minus (H : AH) (L : List Addr) : AH := fun b => if b ∈ L then none else H b
theorem AH.minus_le {H : AH} {L b o} (e : H.minus L b = some o) : b ∉ L ∧ H b = some o := by
  unfold AH.minus at e
  split at e
  · cases e
  · exact ⟨by assumption, e⟩
theorem AH.minus_of {H : AH} {L b o} (h : b ∉ L) (e : H b = some o) : H.minus L b = some o := by
  unfold AH.minus; rw [if_neg h]; exact e
theorem ExtL.minus {L} {H H' : AH} (x : ExtL L H H') : Ext (H.minus L) (H'.minus L) := fun a o e => AH.minus_of (AH.minus_le e).1 (x a o (AH.minus_le e).1 (AH.minus_le e).2)
theorem AH.minus_ext {H : AH} {L} : Ext (H.minus L) H := fun a o e => (AH.minus_le e).2
noncomputable def AH.over (H₁ H : AH) (L : List Addr) : AH := fun b => if b ∈ L then H b else H₁ b
theorem AH.over_in {H₁ H : AH} {L b} (h : b ∈ L) : H₁.over H L b = H b := if_pos h
theorem AH.over_out {H₁ H : AH} {L b} (h : b ∉ L) : H₁.over H L b = H₁ b := if_neg h
theorem AH.over_minus {H₁ H : AH} {L} (h : ∀ b ∈ L, H₁ b = none) : (H₁.over H L).minus L = H₁ := by
  funext b
  unfold AH.minus AH.over
  by_cases q : b ∈ L
  · rw [if_pos q, h b q]
  · rw [if_neg q, if_neg q]
theorem AH.over_ext {H₁ H : AH} {L} (h : ∀ b ∈ L, H₁ b = none) : Ext H₁ (H₁.over H L) := fun a o e => by
  rw [AH.over_out (fun q => by rw [h a q] at e; cases e)]; exact e

/-- the frame rule for calls: what stands at L is not looked at -/
theorem Clc.frame {G : Gl} {A : Around} {f : Value} {rs : List V} {H : AH} {L : List Addr} {Q : V → AH → Prop} (hL : ∀ b ∈ L, ∃ o, H b = some o)
    (h : Clc G A f rs (H.minus L) fun r H₁ => (∀ b ∈ L, H₁ b = none) → Q r (H₁.over H L)) : Clc G A f rs H Q := fun B s vs S R => by
  have S0 : StH G B (H.minus L) s := ⟨S.os, S.gens, S.top, S.keep, fun a o e => S.hr a o (AH.minus_le e).2, fun a o e => S.apart a o (AH.minus_le e).2⟩
  refine codeAny_mono (h _ s vs S0.max R) fun r s' z => ?_
  rcases r with e | (v | _ | _ | _) <;> first | exact z.elim | skip
  obtain ⟨r, H₁, v1, S1, q⟩ := z
  have hn : ∀ b ∈ L, H₁ b = none := fun b hb => by
    obtain ⟨o, ho⟩ := hL b hb
    obtain ⟨ob, h1, _⟩ := (S.hr b o ho).obj
    have : Bmax (H.minus L) s.heap b = some ob := Bmax_some (if_pos hb) h1
    cases e : H₁ b with
    | none => rfl
    | some o' => have z := S1.apart _ _ e; rw [this] at z; cases z
  have tk := S0.tup S1
  refine ⟨r, _, v1, ⟨S1.os, S1.gens, S.top, fun b o e => S1.keep b o (S0.le b o e), fun a o e => ?_, fun a o e => ?_⟩, q hn⟩
  · by_cases hb : a ∈ L
    · rw [AH.over_in hb] at e
      refine OR.mono (S.hr a o e) tk fun ob eo => S1.keep _ _ (Bmax_some (if_pos hb) eo)
    · rw [AH.over_out hb] at e
      exact S1.hr a o e
  · by_cases hb : a ∈ L
    · rw [AH.over_in hb] at e
      exact S.apart a o e
    · rw [AH.over_out hb] at e
      have := S1.apart a o e
      cases q : B a with
      | none => rfl
      | some ob => rw [S0.le _ _ q] at this; cases this

/-- a list that stands ahead of the call and is only read -/
noncomputable def Ro (G : Gl) (a : Addr) (l : List V) : Prop := ∃ vs, G.h₀.IsList a vs ∧ VRs G.h₀ vs.toList l ∧ l.length ≤ 2 ^ 20
theorem Ev.sliceRo {C : Cx} {σ : Lo} {H : AH} {value l u st p pos} {Q : V → AH → Prop}
    (h : Ev C value σ H fun o H₁ => Ep C l σ H₁ fun lo H₂ => Ep C u σ H₂ fun hi H₃ => Ep C st σ H₃ fun k H₄ => ∃ a rs rs', o = .ref a ∧ Ro C.G a rs ∧ k ≠ Option.some 0 ∧
      (∀ h vs, VRs h vs.toList rs → VRs h (slicePick vs lo hi k).toList rs') ∧ ∀ b, H₄ b = Option.none → Q (.ref b) (H₄.put b (.list rs')))
    (hs : ∀ o i, ∃ ops, subscripted (.Slice l u st p) false o i = operate ops (getItem o i) := by intro _ _; exact ⟨_, by with_unfolding_all rfl⟩) : Ev C (.Subscript value (.Slice l u st p) pos) σ H Q := fun B s S => by
  refine Subscript_ (wpAny_mono (h.go S) (fun o s₁ z => ?_) fun _ _ x => x)
  obtain ⟨ro, H₁, v1, S1, _, h1⟩ := z
  refine wpAny_Slice (wpAny_mono (h1.go S1) (fun vl s₂ z => ?_) fun _ _ x => x)
  obtain ⟨lo, H₂, p2, S2, t2, h2⟩ := z
  refine wpAny_mono (h2.go S2) (fun vu s₃ z => ?_) fun _ _ x => x
  obtain ⟨hi, H₃, p3, S3, t3, h3⟩ := z
  refine wpAny_mono (h3.go S3) (fun vk s₄ z => ?_) fun _ _ x => x
  obtain ⟨k, H₄, p4, S4, t4, a, rs, rs', e, ⟨vs, ⟨o, ha, hcl, n, hda⟩, vr0, z0⟩, h0, hp, q⟩ := z
  subst e; cases v1
  have S5 := S4.toH.push { cls := .type "slice", data := .fields #[vl, vu, vk] }
  have ha5 := S5.keep0 _ _ ha
  have il : Heap.IsList (s₄.heap.push { cls := .type "slice", data := .fields #[vl, vu, vk] }) a vs := ⟨o, ha5, hcl, n, hda⟩
  have vr := vr0.mono (.of_keep S5.keep0)
  have z := vr.length
  rw [Array.length_toList] at z
  obtain ⟨ops, hs⟩ := hs (.ref a) (.ref s₄.heap.objs.size)
  refine tail_any (s := { s₄ with heap := s₄.heap.push { cls := .type "slice", data := .fields #[vl, vu, vk] } }) il.typeIs slot_list_getitem.lookup (wpAny_getItem_list_slice il (Heap.IsSliceOf.new ..) p2 p3 p4 h0 ?_ (by rw [sizeLine_eq]; omega)) hs
  have vr' := hp _ vs vr
  refine ⟨_, _, .ref _, S5.new _ (.list rs') (.mkList (Heap.get?_push_size _ rfl) (vr'.mono (.push _ _)) ?_), q _ S5.fresh.1⟩
  have := slicePick_size_le vs lo hi k
  have := vr'.length
  rw [Array.length_toList] at this
  omega
/-- keeps a statement from being walked into -/
noncomputable def Wr (p : Prop) : Prop := p
/-- the deck of draws -/
noncomputable def Dk (H : AH) (D CL : Addr) (cells : List Int) (mixed : Int) : Prop := H D = some (.sd [("cells", .ref CL), ("mixed", .int mixed)]) ∧ H CL = some (.list (cells.map .int)) ∧ 0 ≤ mixed ∧ mixed < 2147483647 ∧ cells.length ≤ 40
theorem Dk.ne {H D CL cells mixed} (h : Dk H D CL cells mixed) : D ≠ CL := fun q => by
  obtain ⟨h1, h2, _⟩ := h
  subst q; rw [h1] at h2; cases h2
section
variable {G : Gl} {a : Ad} (ok : Ok G a) {A : Around} {H : AH} {Q : V → AH → Prop} {n : Nat}
include ok
theorem c_deck {r : Addr} {script : List Int} (rm : Rm A (n + 3)) (hr : Ro G r (script.map .int)) (hz : script.length ≤ 64)
    (h : ∀ D CL H' cells mixed, Dk H' D CL cells mixed → Ext H H' → H D = none → H CL = none → Q (.ref D) H') : Clc G A (.ref a.deck) [.ref r] H Q := by
  refine Clc.enter rm ok.deck rfl (by kernel_rfl) (by kernel_rfl) (by kernel_rfl) (by decide) fun env q code L => ?_
  refine Ex.cons ?_
  refine Ex1.assignTS (names := ["cells", "mixed"]) ?_
  refine Ev.tuple ?_
  refine Es.cons ?_
  refine Ev.comp (CompOk.of (by kernel_rfl)) ?_
  refine Co.pure ?_
  refine Ei.list ?_
  refine Ev.sliceRo ?_
  repeat walk_at "ev"
  refine ⟨r, _, _, rfl, hr, by decide, pick_upto (a := 40), fun c1 hc1 => ?_⟩
  have hlen : (script.take 40).length ≤ 40 := by rw [List.length_take]; omega
  rw [← List.map_take]
  refine ⟨c1, (script.take 40).map .int, rfl, AH.put_self _ _ _, fun v => some v, AH.put_self _ _ _, by rw [List.length_map]; omega, fun L x hx => ?_, ?_⟩
  · obtain ⟨i, _, rfl⟩ := List.mem_map.mp hx
    refine ⟨[("cell", .int i)], rfl, bl1 rfl, ?_⟩
    show _ ∧ _
    refine ⟨rfl, fun _ => ?_, fun e => (by cases e)⟩
    repeat walk_at "ev"
    rfl
  rw [List.filterMap_some]
  generalize (script.take 40) = cells at hlen ⊢
  intro cl hcl
  repeat walk_at "ev"
  have hcl0 : H cl = none := Ext.none (Ext.put hc1) hcl
  refine ⟨on2 (by walk_at "own") (by walk_at "own"), ?_⟩
  show Ex _ _ (Lo.put (Lo.put _ "mixed" (.int 11)) "cells" (.ref cl)) (AH.put (AH.put H c1 (.list (cells.map .int))) cl (.list (cells.map .int))) _ _
  have E : Ext H (AH.put (AH.put H c1 (.list (cells.map .int))) cl (.list (cells.map .int))) := (Ext.put hc1).put' hcl0
  have hcl1 : (AH.put (AH.put H c1 (.list (cells.map .int))) cl (.list (cells.map .int))) cl = some (.list (cells.map .int)) := AH.put_self _ _ _
  generalize (AH.put (AH.put H c1 (.list (cells.map .int))) cl (.list (cells.map .int))) = H1 at *
  refine Ex.cons ?_
  refine Ex1.for_ ?_
  refine Ei.list ?_
  repeat walk_at "ev"
  refine ⟨cl, _, rfl, hcl1, fun i σ' H' => Wr (H' = H1 ∧ σ' "cells" = some (.ref cl) ∧ ∃ m : Int, σ' "mixed" = some (.int m) ∧ 0 ≤ m ∧ m < 1000003), ⟨rfl, by walk_at "lo", 11, by walk_at "lo", by decide, by decide⟩, fun i σ' H' ⟨e, _⟩ => by subst e; exact hcl1, ?_, ?_⟩
  · rintro i x σ' H' hx ⟨rfl, s1, m, s2, m0, m1⟩
    rw [List.getElem?_map, Option.map_eq_some_iff] at hx
    obtain ⟨c, hc, rfl⟩ := hx
    refine As.name (by walk_at "own") ?_
    repeat walk_at "ev"
    refine Do.mul (by omega) ?_
    repeat walk_at "ev"
    refine ⟨rfl, by walk_at "lo", _, Lo.put_self _ _ _, ?_, ?_⟩
    · rw [Int.fmod_eq_emod_of_nonneg _ (by decide)]; exact Int.emod_nonneg _ (by decide)
    · rw [Int.fmod_eq_emod_of_nonneg _ (by decide)]; exact Int.emod_lt_of_pos _ (by decide)
  rintro σ' H' ⟨rfl, s1, m, s2, m0, m1⟩
  refine Ex.cons ?_
  refine Ex1.ret ?_
  refine Ev.dictS ?_ ?_ ?_ ?_ ?_
  · rfl
  · rfl
  · exact List.cons_ne_nil _ _
  · exact Nat.le_of_ble_eq_true rfl
  refine Ed.consS ?_
  refine Ev.str ?_
  refine ⟨_, rfl, ?_⟩
  refine Ev.slice ?_
  repeat walk_at "ev"
  refine ⟨cl, _, _, rfl, hcl1, by decide, pick_back, fun c2 hc2 => ?_⟩
  refine Ed.consS ?_
  refine Ev.str ?_
  refine ⟨_, rfl, ?_⟩
  repeat walk_at "ev"
  refine Ed.nil ?_
  refine ⟨by simp, fun D hD => ?_⟩
  have hD0 := Ext.none (Ext.put hc2) hD
  have nD : c2 ≠ D := fun q => by subst q; rw [AH.put_self] at hD; cases hD
  refine h D c2 _ cells.reverse m ⟨AH.put_self _ _ _, ?_, m0, by omega, by simpa using hlen⟩ ((E.trans (Ext.put hc2)).trans (Ext.put hD)) (E.none hD0) (E.none hc2)
  rw [AH.put_ne _ _ nD, AH.put_self, List.map_reverse]

theorem c_draw {D CL : Addr} {cells : List Int} {mixed many : Int} (rm : Rm A (n + 9)) (d : Dk H D CL cells mixed) (hm : 0 < many)
    (h : ∀ (i : Int) H' cells' mixed', 0 ≤ i → i < many → Dk H' D CL cells' mixed' → ExtL [D, CL] H H' → Q (.int i) H') : Clc G A (.ref a.draw) [.ref D, .int many] H Q := by
  have ne := d.ne
  obtain ⟨d1, d2, d3, d4, d5⟩ := d
  refine Clc.enter rm ok.draw rfl (by kernel_rfl) (by kernel_rfl) (by kernel_rfl) (by decide) fun env q code L => ?_
  refine Ex.cons ?_
  repeat walk_at "ev"
  refine Do.getS d1 rfl ?_
  repeat walk_at "ev"
  intro b hb
  have nb : ∀ {z o}, H z = some o → z ≠ b := fun e q => by subst q; rw [hb] at e; cases e
  refine Do.neD (n := n + 1) ((rm.deeper env).le (by omega)) (RD.ints (Ext.put hb _ _ d2)) (RD.ints (l := []) (AH.put_self _ _ _)) (shaped_ints _) (shaped_ints _) ?_
  rw [eqv_nil]
  have E : Ext H (AH.put H b (.list [])) := Ext.put hb
  generalize (AH.put H b (.list [])) = H1 at *
  refine ⟨_, rfl, fun e => ?_, fun e => ?_⟩
  · have e : cells ≠ [] := by simpa using e
    have d2' := E _ _ d2
    obtain ⟨init, lx, rfl⟩ : ∃ init lx, cells = init ++ [lx] := by
      rcases List.eq_nil_or_concat cells with q | ⟨i, x, q⟩
      · exact absurd q e
      · exact ⟨i, x, by simpa using q⟩
    rw [List.map_append] at d2'
    repeat walk_at "ev"
    refine Do.getS (E _ _ d1) rfl ?_
    refine ⟨_, _, _, Gm.pop d2', Kp.builtin, ?_⟩
    refine Cl.pop d2' ?_
    repeat walk_at "ev"
    refine Do.mod (by omega) ?_
    refine h _ _ init mixed ?_ ?_ ⟨?_, AH.put_self _ _ _, d3, d4, by rw [List.length_append] at d5; omega⟩ fun z o nz ez => ?_
    · rw [Int.fmod_eq_emod_of_nonneg _ (by omega)]; exact Int.emod_nonneg _ (by omega)
    · rw [Int.fmod_eq_emod_of_nonneg _ (by omega)]; exact Int.emod_lt_of_pos _ hm
    · rw [AH.put_ne _ _ ne]; exact E _ _ d1
    · rw [AH.put_ne _ _ (fun q => nz (by subst q; simp))]; exact E _ _ ez
  · refine Ex.nil ?_
    refine Ex.cons ?_
    refine Ex1.setitem ?_
    repeat walk_at "ev"
    refine Do.getS (E _ _ d1) rfl ?_
    repeat walk_at "ev"
    refine Do.mul (by omega) ?_
    repeat walk_at "ev"
    refine Si.str (E _ _ d1) (by simp) ?_
    have em : ((mixed * 16807 + 29).fmod 2147483647) = ((mixed * 16807 + 29) % 2147483647) := Int.fmod_eq_emod_of_nonneg _ (by decide)
    rw [em]
    have d1' : (AH.put H1 D (.sd (sto [("cells", .ref CL), ("mixed", .int mixed)] "mixed" (.int ((mixed * 16807 + 29) % 2147483647))))) D = some (.sd [("cells", .ref CL), ("mixed", .int ((mixed * 16807 + 29) % 2147483647))]) := AH.put_self _ _ _
    refine Ex.cons ?_
    repeat walk_at "ev"
    refine Do.getS d1' rfl ?_
    repeat walk_at "ev"
    refine Do.mod (by omega) ?_
    refine h _ _ cells ((mixed * 16807 + 29) % 2147483647) ?_ ?_ ⟨d1', ?_, Int.emod_nonneg _ (by decide), Int.emod_lt_of_pos _ (by decide), d5⟩ fun z o nz ez => ?_
    · rw [Int.fmod_eq_emod_of_nonneg _ (by omega)]; exact Int.emod_nonneg _ (by omega)
    · rw [Int.fmod_eq_emod_of_nonneg _ (by omega)]; exact Int.emod_lt_of_pos _ hm
    · rw [AH.put_ne _ _ ne.symm]; exact E _ _ d2
    · rw [AH.put_ne _ _ (fun q => nz (by subst q; simp))]; exact E _ _ ez
end
/-! ## data -/
noncomputable def S.d : S → PyData
  | .none => .none
  | .bool b => .bool b
  | .int i => .int i
  | .str s => .str s
theorem S.rd {H : AH} (s : S) : RD H s.v s.d := by cases s <;> constructor
/-- all values that the law puts -/
noncomputable def US : List S := [.none, .bool true, .int 1, .int 0, .int 9, .int 230, .str "Latn", .str "Grek", .str "Zzzz", .str "1"]
theorem US_all : (US.all fun x => US.all fun y => (x.d.shown == y.d.shown) == decide (x = y)) = true := by kernel_rfl
theorem US_x : (US.all fun x => x.d.canLay0 && x.d.showable && x.d.leavesShort 13 && decide (x.d.depth ≤ 0) && decide (x.d.weight ≤ 40)) = true := by kernel_rfl
theorem US_shown {x y : S} (hx : x ∈ US) (hy : y ∈ US) : (x.d.shown == y.d.shown) = decide (x = y) := by
  have h := List.all_eq_true.mp (List.all_eq_true.mp US_all x hx) y hy
  exact beq_iff_eq.mp h
/-- data of which equality and repr can be asked -/
structure Nice (w dp : Nat) (d : PyData) : Prop where
  lay : d.canLay0 = true
  dep : d.depth ≤ dp
  sho : d.showable = true
  lea : d.leavesShort 13 = true
  wei : d.weight ≤ w
theorem Nice.le {w w' dp dp' d} (h : Nice w dp d) (h1 : w ≤ w') (h2 : dp ≤ dp') : Nice w' dp' d := ⟨h.lay, Nat.le_trans h.dep h2, h.sho, h.lea, Nat.le_trans h.wei h1⟩
theorem Nice.us {x : S} (hx : x ∈ US) : Nice 40 0 x.d := by
  have h := List.all_eq_true.mp US_x x hx
  simp only [Bool.and_eq_true, decide_eq_true_eq] at h
  exact ⟨h.1.1.1.1, h.1.2, h.1.1.1.2, h.1.1.2, h.2⟩
theorem Nice.bool {b : Bool} : Nice 40 0 (.bool b) := ⟨rfl, Nat.le_refl _, rfl, rfl, Nat.zero_le _⟩
theorem Nice.none : Nice 40 0 .none := ⟨rfl, Nat.le_refl _, rfl, rfl, Nat.zero_le _⟩
theorem Nice.int {i : Int} (h : i.natAbs < 10 ^ 12) : Nice 40 0 (.int i) := by
  have hlog : i ≠ 0 → i.natAbs.log2 < 40 := fun q => (Nat.log2_lt (by omega)).mpr (Nat.lt_of_lt_of_le h (by decide))
  refine ⟨rfl, Nat.le_refl _, ?_, ?_, ?_⟩
  · show decide (i.natAbs.log2 < 1920) = true
    by_cases q : i = 0
    · subst q; decide
    · have := hlog q; simp; omega
  · show decide ((PyData.shown (.int i)).length ≤ 13) = true
    exact decide_eq_true (PyData.shown_int_le h)
  · show (if i == 0 then 0 else i.natAbs.log2 + 1) ≤ 40
    by_cases q : i = 0
    · subst q; decide
    · have := hlog q; rw [if_neg (by simpa using q)]; omega
theorem Nice.all {w dp : Nat} : ∀ {l : List PyData}, (∀ d ∈ l, Nice w dp d) → PyData.canLayAll0 l = true ∧ PyData.depthAll l ≤ dp ∧ PyData.showableAll l = true ∧ PyData.leavesShortAll 13 l = true ∧ PyData.weightAll l ≤ l.length * (w + 1)
  | [], _ => ⟨rfl, Nat.zero_le _, rfl, rfl, Nat.zero_le _⟩
  | d :: l, h => by
    obtain ⟨a, b, c, e, f⟩ := Nice.all (fun x hx => h x (List.mem_cons_of_mem _ hx))
    have n := h d List.mem_cons_self
    refine ⟨by simp only [PyData.canLayAll0, n.lay, a, Bool.and_true], ?_, by simp only [PyData.showableAll, n.sho, c, Bool.and_true], by simp only [PyData.leavesShortAll, n.lea, e, Bool.and_true], ?_⟩
    · simp only [PyData.depthAll]; exact Nat.max_le.mpr ⟨n.dep, b⟩
    · simp only [PyData.weightAll, List.length_cons, Nat.succ_mul]
      have := n.wei
      omega
theorem Nice.list {w dp k : Nat} {l : List PyData} (h : ∀ d ∈ l, Nice w dp d) (hk : l.length ≤ k) : Nice (k * (w + 1)) (dp + 1) (.list l) := by
  obtain ⟨a, b, c, e, f⟩ := Nice.all h
  refine ⟨by simpa only [PyData.canLay0] using a, by simp only [PyData.depth]; omega, by simpa only [PyData.showable] using c, by simpa only [PyData.leavesShort] using e, ?_⟩
  simp only [PyData.weight]
  exact Nat.le_trans f (Nat.mul_le_mul_right _ hk)
theorem Nice.tuple {w dp k : Nat} {l : List PyData} (h : ∀ d ∈ l, Nice w dp d) (hk : l.length ≤ k) : Nice (k * (w + 1)) (dp + 1) (.tuple l) := by
  obtain ⟨a, b, c, e, f⟩ := Nice.all h
  refine ⟨by simpa only [PyData.canLay0] using a, by simp only [PyData.depth]; omega, by simpa only [PyData.showable] using c, by simpa only [PyData.leavesShort] using e, ?_⟩
  simp only [PyData.weight]
  exact Nat.le_trans f (Nat.mul_le_mul_right _ hk)
theorem Nice.shaped {w dp d} (h : Nice w dp d) (hd : dp ≤ 64) : SeqAt.shaped d = true := by
  unfold SeqAt.shaped
  rw [h.lay, decide_eq_true (Nat.le_trans h.dep hd)]; rfl
theorem Nice.len {w dp d} (h : Nice w dp d) (hw : w ≤ 60000) : d.shown.length ≤ 2 ^ 20 := by
  have := PyData.shown_le 13 (by decide) d h.lea
  have := h.wei
  omega
theorem RDs.map {α : Type} {H : AH} {f : α → V} {g : α → PyData} : ∀ {l : List α}, (∀ x ∈ l, RD H (f x) (g x)) → RDs H (l.map f) (l.map g)
  | [], _ => .nil
  | x :: l, h => .cons (h x List.mem_cons_self) (RDs.map fun y hy => h y (List.mem_cons_of_mem _ hy))
mutual
theorem RD.ext {H H' : AH} (e : Ext H H') {r d} (x : RD H r d) : RD H' r d := by
  cases x with
  | none => exact .none
  | bool b => exact .bool b
  | int i => exact .int i
  | str i => exact .str i
  | tup h => exact .tup (RDs.ext e h)
  | list a h => exact .list (e _ _ a) (RDs.ext e h)
theorem RDs.ext {H H' : AH} (e : Ext H H') {r d} (x : RDs H r d) : RDs H' r d := by
  cases x with
  | nil => exact .nil
  | cons a b => exact .cons (RD.ext e a) (RDs.ext e b)
end
noncomputable def tD (r : Int × Int × S) : PyData := .tuple [.int r.1, .int r.2.1, r.2.2.d]
noncomputable def pD (p : Int × Int) : PyData := .tuple [.int p.1, .int p.2]
theorem tD_rd {H : AH} (r : Int × Int × S) : RD H (tv r) (tD r) := .tup (.cons (.int _) (.cons (.int _) (.cons (S.rd _) .nil)))
theorem pD_rd {H : AH} (p : Int × Int) : RD H (pv p) (pD p) := .tup (.cons (.int _) (.cons (.int _) .nil))
theorem tD_nice {r : Int × Int × S} (h1 : r.1.natAbs < 10 ^ 12) (h2 : r.2.1.natAbs < 10 ^ 12) (h3 : r.2.2 ∈ US) : Nice 123 1 (tD r) := by
  refine Nice.tuple (k := 3) (w := 40) (dp := 0) (fun d hd => ?_) (by simp)
  simp only [List.mem_cons, List.not_mem_nil, or_false] at hd
  rcases hd with rfl | rfl | rfl
  · exact .int h1
  · exact .int h2
  · exact .us h3
theorem pD_nice {p : Int × Int} (h1 : p.1.natAbs < 10 ^ 12) (h2 : p.2.natAbs < 10 ^ 12) : Nice 82 1 (pD p) := by
  refine Nice.tuple (k := 2) (w := 40) (dp := 0) (fun d hd => ?_) (by simp)
  simp only [List.mem_cons, List.not_mem_nil, or_false] at hd
  rcases hd with rfl | rfl
  · exact .int h1
  · exact .int h2
noncomputable def tL (l : List (Int × Int × S)) : PyData := .list (l.map tD)
noncomputable def pL (l : List (Int × Int)) : PyData := .list (l.map pD)
theorem tL_rd {H : AH} {b : Addr} {l : List (Int × Int × S)} (h : H b = some (.list (l.map tv))) : RD H (.ref b) (tL l) := .list h (RDs.map fun x _ => tD_rd x)
theorem pL_rd {H : AH} {b : Addr} {l : List (Int × Int)} (h : H b = some (.list (l.map pv))) : RD H (.ref b) (pL l) := .list h (RDs.map fun x _ => pD_rd x)
theorem tL_nice {l : List (Int × Int × S)} (h : ∀ r ∈ l, r.1.natAbs < 10 ^ 12 ∧ r.2.1.natAbs < 10 ^ 12 ∧ r.2.2 ∈ US) (hl : l.length ≤ 64) : Nice 7936 2 (tL l) := by
  refine Nice.list (k := 64) (w := 123) (dp := 1) (fun d hd => ?_) (by rw [List.length_map]; exact hl)
  obtain ⟨r, hr, rfl⟩ := List.mem_map.mp hd
  exact tD_nice (h r hr).1 (h r hr).2.1 (h r hr).2.2
theorem pL_nice {l : List (Int × Int)} (h : ∀ p ∈ l, p.1.natAbs < 10 ^ 12 ∧ p.2.natAbs < 10 ^ 12) (hl : l.length ≤ 64) : Nice 5312 2 (pL l) := by
  refine Nice.list (k := 64) (w := 82) (dp := 1) (fun d hd => ?_) (by rw [List.length_map]; exact hl)
  obtain ⟨r, hr, rfl⟩ := List.mem_map.mp hd
  exact pD_nice (h r hr).1 (h r hr).2
theorem eqv_refl_list (l : List PyData) : PyData.eqv (.list (l)) (.list []) = decide (l = []) := by
  cases l with
  | nil => rfl
  | cons x xs => simp [PyData.eqv, PyData.eqvAll]

/-! ## pieces -/
noncomputable def tolds (ps : List (Int × Int × S)) (dflt : S) (k : Int) : S := ps.foldl (fun t p => if p.1 ≤ k ∧ k ≤ p.2.1 then p.2.2 else t) dflt
theorem tolds_snoc {ps : List (Int × Int × S)} {dflt : S} {p : Int × Int × S} : tolds (ps ++ [p]) dflt = fun k => if p.1 ≤ k ∧ k ≤ p.2.1 then p.2.2 else tolds ps dflt k := by
  funext k; unfold tolds; rw [List.foldl_append]; rfl
theorem tolds_us {ps : List (Int × Int × S)} {dflt : S} (h : ∀ p ∈ ps, p.2.2 ∈ US) (hd : dflt ∈ US) (k : Int) : tolds ps dflt k ∈ US := by
  induction ps generalizing dflt with
  | nil => exact hd
  | cons p ps ih =>
    refine ih (dflt := if p.1 ≤ k ∧ k ≤ p.2.1 then p.2.2 else dflt) (fun q hq => h q (List.mem_cons_of_mem _ hq)) ?_
    split
    · exact h p List.mem_cons_self
    · exact hd
theorem tolds_congr {ps : List (Int × Int × S)} {dflt : S} {j k : Int} (h : ∀ p ∈ ps, (p.1 ≤ j ∧ j ≤ p.2.1) ↔ (p.1 ≤ k ∧ k ≤ p.2.1)) : tolds ps dflt j = tolds ps dflt k := by
  induction ps generalizing dflt with
  | nil => rfl
  | cons p ps ih =>
    have h1 := ih (dflt := if p.1 ≤ j ∧ j ≤ p.2.1 then p.2.2 else dflt) (fun q hq => h q (List.mem_cons_of_mem _ hq))
    refine h1.trans ?_
    show tolds ps _ k = tolds ps _ k
    congr 1
    simp only [h p List.mem_cons_self]
noncomputable def rowsTo : List (Int × S) → Int → List (Int × Int × S)
  | [], _ => []
  | [(k, v)], e => [(k, e, v)]
  | (k, v) :: (k', v') :: t, e => (k, k' - 1, v) :: rowsTo ((k', v') :: t) e
theorem rowsTo_snoc : ∀ (l : List (Int × S)) (k : Int) (v : S) (e : Int), rowsTo (l ++ [(k, v)]) e = rowsTo l (k - 1) ++ [(k, e, v)]
  | [], _, _, _ => rfl
  | [(a, b)], _, _, _ => rfl
  | (a, b) :: (c, d) :: t, k, v, e => by
    show (a, c - 1, b) :: rowsTo (((c, d) :: t) ++ [(k, v)]) e = _
    rw [rowsTo_snoc ((c, d) :: t) k v e]; rfl
theorem rowsOf_to : ∀ l, rowsOf l = rowsTo l 1114111
  | [] => rfl
  | [(k, v)] => rfl
  | (k, v) :: (k', v') :: t => by rw [rowsOf, rowsTo, rowsOf_to ((k', v') :: t)]
theorem rowsTo_len : ∀ l e, (rowsTo l e).length = l.length
  | [], _ => rfl
  | [(k, v)], _ => rfl
  | (k, v) :: (k', v') :: t, e => by rw [rowsTo, List.length_cons, rowsTo_len ((k', v') :: t) e]; rfl
structure PI (φ : Int → S) (l : List (Int × S)) (b : Int) : Prop where
  srt : (l.map (·.1)).Pairwise (· < ·)
  hd : (l = [] ∧ b < 0) ∨ ∃ v t, l = (0, v) :: t
  mx : ∀ p ∈ l, p.1 ≤ b
  nr : NoRep l
  sem : ∀ k, 0 ≤ k → k ≤ b → look l k = some (φ k)
theorem PI.zero (φ : Int → S) : PI φ [] (-1) := ⟨.nil, .inl ⟨rfl, by decide⟩, by simp, trivial, fun k h1 h2 => by omega⟩
theorem PI.keep {φ : Int → S} {l : List (Int × S)} {p e k : Int} (h : PI φ (l ++ [(k, φ p)]) (p - 1)) (hp : p ≤ e) (hc : ∀ j, p ≤ j → j ≤ e → φ j = φ p) : PI φ (l ++ [(k, φ p)]) e := by
  refine ⟨h.srt, ?_, fun q hq => by have := h.mx q hq; omega, h.nr, fun j h0 h1 => ?_⟩
  · rcases h.hd with ⟨e, _⟩ | e
    · simp at e
    · exact .inr e
  · by_cases q : j ≤ p - 1
    · exact h.sem j h0 q
    · rw [look_all (fun x hx => by have := h.mx x hx; omega), List.getLast?_concat, hc j (by omega) h1]; rfl
theorem PI.snoc {φ : Int → S} {l : List (Int × S)} {p e : Int} (h : PI φ l (p - 1)) (h0 : 0 ≤ p) (hp : p ≤ e) (hc : ∀ j, p ≤ j → j ≤ e → φ j = φ p) (hn : ∀ q, l.getLast? = some q → q.2 ≠ φ p) : PI φ (l ++ [(p, φ p)]) e := by
  refine ⟨?_, ?_, fun q hq => ?_, ?_, fun j j0 j1 => ?_⟩
  · rw [List.map_append, List.pairwise_append]
    refine ⟨h.srt, by simp, fun x hx y hy => ?_⟩
    obtain ⟨q, hq, rfl⟩ := List.mem_map.mp hx
    have := h.mx q hq
    simp at hy; subst hy; omega
  · rcases h.hd with ⟨e, e2⟩ | ⟨v, t, e⟩
    · have : p = 0 := by omega
      subst this; subst e; exact .inr ⟨_, [], rfl⟩
    · subst e; exact .inr ⟨v, t ++ [(p, φ p)], rfl⟩
  · rcases List.mem_append.mp hq with q' | q'
    · have := h.mx q q'; omega
    · simp at q'; subst q'; exact hp
  · refine NoRep.append.mpr ⟨h.nr, trivial, fun a b ha hb => ?_⟩
    simp at hb; subst hb; exact hn a ha
  · rw [look_append]
    by_cases q : j ≤ p - 1
    · rw [look_none (x := [(p, φ p)]) (fun x hx => by simp at hx; subst hx; show j < p; omega), h.sem j j0 q]; rfl
    · rw [look_all (x := [(p, φ p)]) (fun x hx => by simp at hx; subst hx; show p ≤ j; omega), hc j (by omega) j1]; rfl
theorem PI.rw {φ : Int → S} {l : List (Int × S)} (h : PI φ l 1114111) : RW l φ := ⟨h.srt, by
    rcases h.hd with ⟨_, q⟩ | q
    · exact absurd q (by decide)
    · exact q, h.mx, h.nr, h.sem⟩
/-- where the pieces may begin -/
noncomputable def endOf (pl : List Int) (i : Nat) : Int := match pl[i]? with | some q => q - 1 | none => 1114111
theorem pl_gap {pl : List Int} (srt : pl.Pairwise (· < ·)) {i : Nat} {x k : Int} (hx : pl[i]? = some x) (hk : k ≤ endOf pl (i + 1)) : ∀ z ∈ pl, z ≤ x ∨ k < z := fun z hz => by
  obtain ⟨j, hj⟩ := List.mem_iff_getElem?.mp hz
  obtain ⟨li, ei⟩ := List.getElem?_eq_some_iff.mp hx
  obtain ⟨lj, ej⟩ := List.getElem?_eq_some_iff.mp hj
  rw [List.pairwise_iff_getElem] at srt
  rcases Nat.lt_trichotomy j i with q | q | q
  · left; have := srt j i lj li q; omega
  · left; subst q; omega
  · right
    have l1 : i + 1 < pl.length := by omega
    unfold endOf at hk
    rw [List.getElem?_eq_getElem l1] at hk
    dsimp only at hk
    by_cases q2 : i + 1 = j
    · subst q2; omega
    · have := srt (i + 1) j l1 lj (by omega); omega
theorem pl_end {pl : List Int} (srt : pl.Pairwise (· < ·)) (mx : ∀ x ∈ pl, x ≤ 1114111) {i : Nat} {x : Int} (hx : pl[i]? = some x) : x ≤ endOf pl (i + 1) ∧ endOf pl i = x - 1 := by
  refine ⟨?_, by unfold endOf; rw [hx]⟩
  obtain ⟨li, ei⟩ := List.getElem?_eq_some_iff.mp hx
  unfold endOf
  cases q : pl[i + 1]? with
  | none => exact mx x (List.mem_of_getElem? hx)
  | some y =>
    obtain ⟨lj, ej⟩ := List.getElem?_eq_some_iff.mp q
    have := (List.pairwise_iff_getElem.mp srt) i (i + 1) li lj (by omega)
    show x ≤ y - 1
    omega
theorem endOf_le {pl : List Int} (mx : ∀ x ∈ pl, x ≤ 1114111) (i : Nat) : endOf pl i ≤ 1114111 := by
  unfold endOf
  cases q : pl[i]? with
  | none => exact Int.le_refl _
  | some y => have := mx y (List.mem_of_getElem? q); show y - 1 ≤ _; omega
theorem pl_of {keys ns : List Int} (nd : keys.Nodup) (perm : ns.Perm keys) (srt : ns.Pairwise (· ≤ ·)) (h0 : (0 : Int) ∈ keys) (hn : ∀ x ∈ keys, 0 ≤ x) :
    (ns.filter fun x => decide (x ≤ 1114111)).Pairwise (· < ·) ∧ (∀ x, x ∈ (ns.filter fun x => decide (x ≤ 1114111)) ↔ x ∈ keys ∧ x ≤ 1114111) ∧ ∃ t, (ns.filter fun x => decide (x ≤ 1114111)) = 0 :: t := by
  have nd' : ns.Nodup := perm.nodup_iff.mpr nd
  have s1 : ns.Pairwise (· < ·) := by
    refine List.Pairwise.imp (fun {a b} h => ?_) (List.pairwise_and_iff.mpr ⟨srt, nd'⟩)
    have h1 := h.1
    have h2 : a ≠ b := h.2
    omega
  have s2 : (ns.filter fun x => decide (x ≤ 1114111)).Pairwise (· < ·) := s1.filter _
  have mem : ∀ x, x ∈ (ns.filter fun x => decide (x ≤ 1114111)) ↔ x ∈ keys ∧ x ≤ 1114111 := fun x => by
    rw [List.mem_filter, perm.mem_iff]; simp
  refine ⟨s2, mem, ?_⟩
  have m0 := (mem 0).mpr ⟨h0, by decide⟩
  cases e : (ns.filter fun x => decide (x ≤ 1114111)) with
  | nil => rw [e] at m0; cases m0
  | cons y t =>
    rw [e] at m0 s2
    have hy := hn y ((mem y).mp (by rw [e]; exact List.mem_cons_self)).1
    rcases List.mem_cons.mp m0 with q | q
    · exact ⟨t, by rw [← q]⟩
    · have := (List.pairwise_cons.mp s2).1 0 q
      omega
theorem sto_keys {kvs : List (Int × V)} {k : Int} {v : V} : (sto kvs k v).map (·.1) = if k ∈ kvs.map (·.1) then kvs.map (·.1) else kvs.map (·.1) ++ [k] := by
  unfold sto
  have e : kvs.any (fun kv => decide (kv.1 = k)) = decide (k ∈ kvs.map (·.1)) := by
    rw [Bool.eq_iff_iff, List.any_eq_true, decide_eq_true_eq, List.mem_map]
    constructor
    · rintro ⟨x, hx, he⟩; exact ⟨x, hx, of_decide_eq_true he⟩
    · rintro ⟨x, hx, he⟩; exact ⟨x, hx, decide_eq_true he⟩
  rw [e]
  by_cases q : k ∈ kvs.map (·.1)
  · rw [if_pos (decide_eq_true q), if_pos q, List.map_map]
    apply List.map_congr_left
    intro x _
    show (if x.1 = k then (x.1, v) else x).1 = x.1
    split <;> rfl
  · rw [if_neg (by simpa using q), if_neg q, List.map_append]; rfl
/-- a dict's keys -/
noncomputable def Keys (kvs : List (Int × V)) (P : Int → Prop) : Prop := (kvs.map (·.1)).Nodup ∧ ∀ x, x ∈ kvs.map (·.1) ↔ P x
theorem Keys.sto {kvs P k v} (h : Keys kvs P) : Keys (sto kvs k v) fun x => P x ∨ x = k := by
  unfold Keys
  rw [sto_keys]
  by_cases q : k ∈ kvs.map (·.1)
  · rw [if_pos q]
    refine ⟨h.1, fun x => (h.2 x).trans ⟨.inl, ?_⟩⟩
    rintro (e | e)
    · exact e
    · subst e; exact (h.2 x).mp q
  · rw [if_neg q]
    refine ⟨List.nodup_append.mpr ⟨h.1, by simp, fun a ha b hb e => ?_⟩, fun x => ?_⟩
    · simp at hb; subst hb; subst e; exact q ha
    · rw [List.mem_append, h.2 x]; simp
theorem Keys.congr {kvs P P'} (h : Keys kvs P) (e : ∀ x, P x ↔ P' x) : Keys kvs P' := ⟨h.1, fun x => (h.2 x).trans (e x)⟩
/-- where the pieces end -/
noncomputable def EndK (ps : List (Int × Int × S)) (x : Int) : Prop := x = 0 ∨ ∃ p ∈ ps, p.1 ≤ p.2.1 ∧ (x = p.1 ∨ x = p.2.1 + 1)
theorem EndK.snoc {ps : List (Int × Int × S)} {p : Int × Int × S} (h : p.1 ≤ p.2.1) (x : Int) : ((EndK ps x ∨ x = p.1) ∨ x = p.2.1 + 1) ↔ EndK (ps ++ [p]) x := by
  unfold EndK
  constructor
  · rintro (((h0 | ⟨r, hr, h1⟩) | h0) | h0)
    · exact .inl h0
    · exact .inr ⟨r, List.mem_append_left _ hr, h1⟩
    · exact .inr ⟨p, by simp, h, .inl h0⟩
    · exact .inr ⟨p, by simp, h, .inr h0⟩
  · rintro (h0 | ⟨r, hr, h1, h2⟩)
    · exact .inl (.inl (.inl h0))
    · rcases List.mem_append.mp hr with hr | hr
      · exact .inl (.inl (.inr ⟨r, hr, h1, h2⟩))
      · rw [List.mem_singleton] at hr; subst hr
        rcases h2 with h2 | h2
        · exact .inl (.inr h2)
        · exact .inr h2
theorem EndK.skip {ps : List (Int × Int × S)} {p : Int × Int × S} (h : ¬ p.1 ≤ p.2.1) (x : Int) : EndK ps x ↔ EndK (ps ++ [p]) x := by
  unfold EndK
  constructor
  · rintro (h0 | ⟨r, hr, h1⟩)
    · exact .inl h0
    · exact .inr ⟨r, List.mem_append_left _ hr, h1⟩
  · rintro (h0 | ⟨r, hr, h1, h2⟩)
    · exact .inl h0
    · rcases List.mem_append.mp hr with hr | hr
      · exact .inr ⟨r, hr, h1, h2⟩
      · rw [List.mem_singleton] at hr; subst hr; exact absurd h1 h
theorem EndK.const {ps : List (Int × Int × S)} {dflt : S} {pl : List Int} (srt : pl.Pairwise (· < ·)) (mem : ∀ x, x ∈ pl ↔ EndK ps x ∧ x ≤ 1114111) (hb : ∀ p ∈ ps, p.2.1 ≤ 1114111) {i : Nat} {x : Int} (hx : pl[i]? = some x) {j : Int} (h1 : x ≤ j)
    (h2 : j ≤ endOf pl (i + 1)) : tolds ps dflt j = tolds ps dflt x := by
  refine tolds_congr fun p hp => ?_
  by_cases q : p.1 ≤ p.2.1
  · have g := pl_gap srt hx h2
    have b := hb p hp
    have g1 := g p.1 ((mem _).mpr ⟨.inr ⟨p, hp, q, .inl rfl⟩, by omega⟩)
    have jb := Int.le_trans h2 (endOf_le (fun z hz => ((mem z).mp hz).2) (i + 1))
    by_cases q2 : p.2.1 + 1 ≤ 1114111
    · have g2 := g (p.2.1 + 1) ((mem _).mpr ⟨.inr ⟨p, hp, q, .inr rfl⟩, q2⟩)
      omega
    · omega
  · omega
theorem tv_get {ps : List (Int × Int × S)} {i : Nat} {x : V} (h : (ps.map tv)[i]? = some x) : ∃ p, ps[i]? = some p ∧ x = tv p ∧ ps.take (i + 1) = ps.take i ++ [p] := by
  rw [List.getElem?_map, Option.map_eq_some_iff] at h
  obtain ⟨p, hp, rfl⟩ := h
  exact ⟨p, hp, rfl, by rw [List.take_add_one, hp]; rfl⟩
section
variable {C : Cx} {σ : Lo} {H : AH}
/-- the first loop: the ends of all that was put -/
theorem puts_loop {pu en : Addr} {ps : List (Int × Int × S)} {kvs : List (Int × V)} {iter body pos t1 t2 t3 k tp} {Qn : Lo → AH → Prop} {Qr : V → AH → Prop} (hpu : σ "puts" = some (.ref pu)) (hen : σ "ends" = some (.ref en)) (hp : H pu = some (.list (ps.map tv)))
    (he : H en = some (.zd kvs)) (hk : Keys kvs (EndK [])) (hl : kvs.length ≤ 1) (hz : ps.length ≤ 8) (ne : pu ≠ en) (o1 : Own C "first") (o2 : Own C "last") (o3 : Own C "value")
    (hit : ∀ {Q : V → AH → Prop}, Q (.ref pu) H → Ev C iter σ H Q)
    (hb : ∀ σ' H' kvs' (p : Int × Int × S), σ' "ends" = some (.ref en) → σ' "first" = some (.int p.1) → σ' "last" = some (.int p.2.1) → H' en = some (.zd kvs') → kvs'.length ≤ 100 →
      Ex C body σ' H' (fun σ'' H'' => σ'' = σ' ∧ H'' = if p.1 ≤ p.2.1 then (H'.put en (.zd (sto kvs' p.1 (.bool true)))).put en (.zd (sto (sto kvs' p.1 (.bool true)) (p.2.1 + 1) (.bool true))) else H') Qr)
    (h : ∀ σ' H' kvs', (∀ x : Str, x ≠ "first" → x ≠ "last" → x ≠ "value" → σ' x = σ x) → ExtB en H H' → H' en = some (.zd kvs') → Keys kvs' (EndK ps) → kvs'.length ≤ 2 * ps.length + 1 → Qn σ' H')
    (hs : ∀ x, foldedSetIterable iter C.env x = pure x := by intro _; with_unfolding_all rfl) : Ex1 C (.For (.Tuple [.Name "first" t1, .Name "last" t2, .Name "value" t3] k tp) iter body [] pos) σ H Qn Qr := by
  refine Ex1.for_ (Ei.list (hit ?_)) hs
  refine ⟨pu, _, rfl, hp, fun i σ' H' => ∃ kvs', (∀ x : Str, x ≠ "first" → x ≠ "last" → x ≠ "value" → σ' x = σ x) ∧ ExtB en H H' ∧ H' en = some (.zd kvs') ∧ Keys kvs' (EndK (ps.take i)) ∧ kvs'.length ≤ 2 * i + 1,
    ⟨kvs, fun _ _ _ _ => rfl, fun _ _ _ e => e, he, hk, hl⟩, ?_, ?_, ?_⟩
  · rintro i σ' H' ⟨_, _, hE, _⟩; exact hE _ _ ne hp
  · rintro i x σ' H' hx ⟨kvs', s0, hE, h1, h2, h3⟩
    obtain ⟨p, hp', rfl, ht⟩ := tv_get hx
    have hi : i < ps.length := (List.getElem?_eq_some_iff.mp hp').1
    refine As.tg rfl (bo3 o1 o2 o3) ?_
    have es : ∀ z, σ'.puts [("first", .int p.1), ("last", .int p.2.1), ("value", p.2.2.v)] z = (Lo.put (Lo.put (Lo.put σ' "first" (.int p.1)) "last" (.int p.2.1)) "value" p.2.2.v) z := fun _ => rfl
    refine Ex.mono (hb _ H' kvs' p ?_ ?_ ?_ h1 (by omega)) ?_ fun _ _ x => x
    · exact (es _).trans ((Lo.put_ne _ _ (by decide)).trans ((Lo.put_ne _ _ (by decide)).trans ((Lo.put_ne _ _ (by decide)).trans ((s0 _ (by decide) (by decide) (by decide)).trans hen))))
    · exact (es _).trans ((Lo.put_ne _ _ (by decide)).trans ((Lo.put_ne _ _ (by decide)).trans (Lo.put_self _ _ _)))
    · exact (es _).trans ((Lo.put_ne _ _ (by decide)).trans (Lo.put_self _ _ _))
    · rintro σ2 H2 ⟨rfl, rfl⟩
      have s1 : ∀ x : Str, x ≠ "first" → x ≠ "last" → x ≠ "value" → σ'.puts [("first", .int p.1), ("last", .int p.2.1), ("value", p.2.2.v)] x = σ x := fun x a b c =>
        (es _).trans ((Lo.put_ne _ _ c).trans ((Lo.put_ne _ _ b).trans ((Lo.put_ne _ _ a).trans (s0 _ a b c))))
      rw [ht]
      by_cases q : p.1 ≤ p.2.1
      · rw [if_pos q]
        have a1 := sto_le kvs' p.1 (.bool true)
        have a2 := sto_le (sto kvs' p.1 (.bool true)) (p.2.1 + 1) (.bool true)
        exact ⟨_, s1, (hE.trans .put).trans .put, AH.put_self _ _ _, (h2.sto.sto).congr (EndK.snoc q), by omega⟩
      · rw [if_neg q]
        exact ⟨_, s1, hE, h1, h2.congr (EndK.skip q), by omega⟩
  · rintro σ' H' ⟨kvs', s0, hE, h1, h2, h3⟩
    rw [List.length_map] at h2 h3
    rw [List.take_of_length_le (Nat.le_refl _)] at h2
    exact h σ' H' kvs' s0 hE h1 h2 h3
end
section
variable {C : Cx} {σ : Lo} {H : AH}
/-- the inner loop: what was put last at a place -/
theorem told_loop {pu : Addr} {ps : List (Int × Int × S)} {x : Int} {dflt : S} {iter body pos t1 t2 t3 k tp} {Qn : Lo → AH → Prop} {Qr : V → AH → Prop} (hpl : σ "place" = some (.int x)) (ht : σ "told" = some dflt.v) (hp : H pu = some (.list (ps.map tv)))
    (o1 : Own C "first") (o2 : Own C "last") (o3 : Own C "value")
    (hit : ∀ {Q : V → AH → Prop}, Q (.ref pu) H → Ev C iter σ H Q)
    (hb : ∀ σ' (p : Int × Int × S), σ' "place" = some (.int x) → σ' "first" = some (.int p.1) → σ' "last" = some (.int p.2.1) → σ' "value" = some p.2.2.v →
      Ex C body σ' H (fun σ'' H'' => H'' = H ∧ σ'' = if p.1 ≤ x ∧ x ≤ p.2.1 then σ'.put "told" p.2.2.v else σ') Qr)
    (h : ∀ σ', (∀ y : Str, y ≠ "first" → y ≠ "last" → y ≠ "value" → y ≠ "told" → σ' y = σ y) → σ' "told" = some (tolds ps dflt x).v → Qn σ' H)
    (hs : ∀ x, foldedSetIterable iter C.env x = pure x := by intro _; with_unfolding_all rfl) : Ex1 C (.For (.Tuple [.Name "first" t1, .Name "last" t2, .Name "value" t3] k tp) iter body [] pos) σ H Qn Qr := by
  refine Ex1.for_ (Ei.list (hit ?_)) hs
  refine ⟨pu, _, rfl, hp, fun i σ' H' => H' = H ∧ (∀ y : Str, y ≠ "first" → y ≠ "last" → y ≠ "value" → y ≠ "told" → σ' y = σ y) ∧ σ' "told" = some (tolds (ps.take i) dflt x).v, ⟨rfl, fun _ _ _ _ _ => rfl, ht⟩, ?_, ?_, ?_⟩
  · rintro i σ' H' ⟨rfl, _⟩; exact hp
  · rintro i w σ' H' hx ⟨rfl, s0, s1⟩
    obtain ⟨p, hp', rfl, e⟩ := tv_get hx
    refine As.tg rfl (bo3 o1 o2 o3) ?_
    have es : ∀ z, σ'.puts [("first", .int p.1), ("last", .int p.2.1), ("value", p.2.2.v)] z = (Lo.put (Lo.put (Lo.put σ' "first" (.int p.1)) "last" (.int p.2.1)) "value" p.2.2.v) z := fun _ => rfl
    have s2 : ∀ y : Str, y ≠ "first" → y ≠ "last" → y ≠ "value" → σ'.puts [("first", .int p.1), ("last", .int p.2.1), ("value", p.2.2.v)] y = σ' y := fun y a b c =>
      (es _).trans ((Lo.put_ne _ _ c).trans ((Lo.put_ne _ _ b).trans (Lo.put_ne _ _ a)))
    refine Ex.mono (hb _ p ?_ ?_ ?_ ?_) ?_ fun _ _ x => x
    · exact (s2 _ (by decide) (by decide) (by decide)).trans ((s0 _ (by decide) (by decide) (by decide) (by decide)).trans hpl)
    · exact (es _).trans ((Lo.put_ne _ _ (by decide)).trans ((Lo.put_ne _ _ (by decide)).trans (Lo.put_self _ _ _)))
    · exact (es _).trans ((Lo.put_ne _ _ (by decide)).trans (Lo.put_self _ _ _))
    · exact (es _).trans (Lo.put_self _ _ _)
    · rintro σ2 H2 ⟨rfl, rfl⟩
      rw [e, tolds_snoc]
      dsimp only
      by_cases q : p.1 ≤ x ∧ x ≤ p.2.1
      · rw [if_pos q, if_pos q]
        exact ⟨rfl, fun y a b c d => (Lo.put_ne _ _ d).trans ((s2 y a b c).trans (s0 y a b c d)), Lo.put_self _ _ _⟩
      · rw [if_neg q, if_neg q]
        exact ⟨rfl, fun y a b c d => (s2 y a b c).trans (s0 y a b c d), (s2 _ (by decide) (by decide) (by decide)).trans s1⟩
  · rintro σ' H' ⟨rfl, s0, s1⟩
    rw [List.length_map, List.take_of_length_le (Nat.le_refl _)] at s1
    exact h σ' s0 s1
end
theorem rowsTo_vals (e : Int) : ∀ l : List (Int × S), (rowsTo l e).map (·.2.2) = l.map (·.2)
  | [] => rfl
  | [(k, v)] => rfl
  | (k, v) :: (k', v') :: t => by show v :: _ = v :: _; rw [rowsTo_vals e ((k', v') :: t)]
theorem tL_us {l : List (Int × S)} (h : ∀ q ∈ l, q.2 ∈ US) (e : Int) : ∀ r ∈ rowsTo l e, r.2.2 ∈ US := fun r hr => by
  have h1 : r.2.2 ∈ (rowsTo l e).map (·.2.2) := List.mem_map_of_mem (f := fun r : Int × Int × S => r.2.2) hr
  rw [rowsTo_vals] at h1
  obtain ⟨q, hq, e⟩ := List.mem_map.mp h1
  rw [← e]; exact h q hq
theorem shaped_tL {l : List (Int × Int × S)} (h : ∀ r ∈ l, r.2.2 ∈ US) : SeqAt.shaped (tL l) = true := by
  have key : PyData.canLayAll0 (l.map tD) = true ∧ PyData.depthAll (l.map tD) ≤ 1 := by
    induction l with
    | nil => exact ⟨rfl, Nat.zero_le _⟩
    | cons r t ih =>
      obtain ⟨a, b⟩ := ih fun x hx => h x (List.mem_cons_of_mem _ hx)
      have n := Nice.us (h r List.mem_cons_self)
      have l := n.lay
      have d := n.dep
      refine ⟨by simp only [List.map_cons, PyData.canLayAll0, tD, PyData.canLay0, l, a, Bool.and_true], ?_⟩
      simp only [List.map_cons, PyData.depthAll, tD, PyData.depth]; omega
  obtain ⟨a, b⟩ := key
  unfold SeqAt.shaped tL
  rw [show (PyData.list (l.map tD)).canLay0 = true by simpa only [PyData.canLay0] using a, Bool.true_and, decide_eq_true_eq]
  simp only [PyData.depth]; omega
theorem eqv_tL (l : List (Int × Int × S)) : (!PyData.eqv (tL l) (tL [])) = !decide (l = []) := by
  unfold tL
  rw [List.map_nil, eqv_refl_list]
  cases l <;> rfl
theorem Cl.reprUS {G : Gl} {A : Around} {H : AH} {Q : V → AH → Prop} {n : Nat} {x : S} (rm : Rm A (n + 8)) (hx : x ∈ US) (h : Q (.str x.d.shown) H) : Cl G A (.builtin "repr") [x.v] H Q :=
  have n := Nice.us hx
  Cl.repr rm x.rd (n.shaped (by decide)) n.sho (n.len (by decide)) h
/-- a statement that nobody looks into -/
structure X1 (C : Cx) (st : Stmt) (σ : Lo) (H : AH) (Qn : Lo → AH → Prop) (Qr : V → AH → Prop) : Prop where
  out : Ex1 C st σ H Qn Qr
theorem Ex.consX {C : Cx} {σ : Lo} {H : AH} {Qn : Lo → AH → Prop} {Qr : V → AH → Prop} {st rest} (h : X1 C st σ H (fun σ' H' => Ex C rest σ' H' Qn Qr) Qr) : Ex C (st :: rest) σ H Qn Qr := Ex.cons h.out
structure PSt (pu lo fo : Addr) (dflt : S) (ps : List (Int × Int × S)) (pl : List Int) (H3 : AH) (i : Nat) (σ' : Lo) (H' : AH) (l : List (Int × S)) : Prop where
  v1 : σ' "puts" = some (.ref pu)
  v2 : σ' "default" = some dflt.v
  v3 : σ' "places" = some (.ref lo)
  v4 : σ' "found" = some (.ref fo)
  hf : H' fo = some (.list ((rowsTo l (endOf pl i)).map tv))
  hE : ExtB fo H3 H'
  hI : PI (tolds ps dflt) l (endOf pl i)
  hl : l.length ≤ i
  hu : ∀ q ∈ l, q.2 ∈ US
noncomputable def PLoop (pu lo fo : Addr) (dflt : S) (ps : List (Int × Int × S)) (pl : List Int) (H3 : AH) (i : Nat) (σ' : Lo) (H' : AH) : Prop := ∃ l, PSt pu lo fo dflt ps pl H3 i σ' H' l
structure PPl (ps : List (Int × Int × S)) (pl : List Int) : Prop where
  srt : pl.Pairwise (· < ·)
  mem : ∀ x, x ∈ pl ↔ EndK ps x ∧ x ≤ 1114111
  z0 : endOf pl 0 = -1
  nn : ∀ x ∈ pl, 0 ≤ x
section
variable {C : Cx} {σ : Lo} {H : AH}
/-- for at, place in enumerate(X) -/
theorem enum_loop {lo : Addr} {pl : List Int} {iter body pos t1 t2 k tp} {Qn : Lo → AH → Prop} {Qr : V → AH → Prop} (I : Nat → Lo → AH → Prop)
    (hit : ∀ Q : V → AH → Prop, (∀ e it o, H it = none → H e = none → e ≠ it → o.cls = .type "list_iterator" → o.data = .fields #[.ref lo, .int ((0 : Nat) : Int) 0] → Q (.ref e) (AH.put (AH.put H it (.raw o)) e (.raw (enumObj it)))) → Ev C iter σ H Q)
    (hp : H lo = some (.list (pl.map .int))) (o1 : Own C "at") (o2 : Own C "place") (i0 : I 0 σ H) (keep : ∀ i σ' H', I i σ' H' → H' lo = some (.list (pl.map .int)))
    (hb : ∀ i x σ' H', pl[i]? = some x → I i σ' H' → Ex C body (Lo.put (Lo.put σ' "at" (.int i)) "place" (.int x)) H' (fun σ'' H'' => I (i + 1) σ'' H'') Qr) (he : ∀ σ' H', I pl.length σ' H' → Qn σ' H')
    (hs : ∀ x, foldedSetIterable iter C.env x = pure x := by intro _; with_unfolding_all rfl) : Ex1 C (.For (.Tuple [.Name "at" t1, .Name "place" t2] k tp) iter body [] pos) σ H Qn Qr := by
  refine Ex1.for_ (Ei.enum (hit _ fun e it o hi he' hne c1 c2 => ?_)) hs
  refine ⟨e, it, o, H, lo, _, rfl, rfl, c1, c2, hi, he', hne, hp, I, i0, keep, ?_, ?_⟩
  · intro i w σ' H' hx ii
    have hi : i < pl.length := by have := (List.getElem?_eq_some_iff.mp hx).1; rw [pairsV_len, List.length_map] at this; exact this
    have hp' : pl[i]? = some pl[i] := List.getElem?_eq_getElem hi
    have hw := pairsV_get (l := pl.map V.int) (r := .int pl[i]) (i := i) (by rw [List.getElem?_map, hp']; rfl)
    rw [hx] at hw; cases hw
    exact As.tg rfl (bo2 o1 o2) (hb i _ σ' H' hp' ii)
  · intro σ' H' ii
    rw [pairsV_len, List.length_map] at ii
    exact he _ _ ii
end
section
variable {G : Gl} {a : Ad} (ok : Ok G a) {A : Around} {H : AH} {σ : Lo} {Qn : Lo → AH → Prop} {Qr : V → AH → Prop} {n : Nat} {q : Str} {code : Value} {L pu fo en lo : Addr} {ps : List (Int × Int × S)} {pl : List Int} {dflt : S}
include ok
theorem pc0 (rm : Rm A (n + 19)) (h : ∀ en, H en = none → Qn (Lo.put (Lo.of (List.zip ["puts", "default"] [.ref pu, dflt.v])) "ends" (.ref en)) (AH.put H en (.zd [(0, .bool true)]))) :
    X1 (Cx.of G A (n + 19) rm (fnScope (top 21)) rfl q code a.pieces L) (st 21 0) (Lo.of (List.zip ["puts", "default"] [.ref pu, dflt.v])) H Qn Qr := by
  refine ⟨?_⟩
  refine Ex1.assign (by walk_at "own") ?_
  refine Ev.dictZ ?_ ?_ ?_ ?_ ?_
  · rfl
  · rfl
  · exact List.cons_ne_nil _ _
  · exact Nat.le_of_ble_eq_true rfl
  refine Ed.consZ ?_
  refine Ev.int ?_
  refine ⟨_, rfl, ?_⟩
  refine Ev.bool ?_
  refine Ed.nil ?_
  exact ⟨by simp, fun en hen => h en hen⟩
theorem pc1 (rm : Rm A (n + 19)) (s1 : σ "puts" = some (.ref pu)) (s2 : σ "default" = some dflt.v) (s3 : σ "ends" = some (.ref en)) (k1 : H en = some (.zd [(0, .bool true)])) (hp : H pu = some (.list (ps.map tv))) (hz : ps.length ≤ 8) (ne : pu ≠ en)
    (h : ∀ σ2 H2 kvs, σ2 "puts" = some (.ref pu) → σ2 "default" = some dflt.v → σ2 "ends" = some (.ref en) → ExtB en H H2 → H2 en = some (.zd kvs) → Keys kvs (EndK ps) → kvs.length ≤ 2 * ps.length + 1 → Qn σ2 H2) :
    X1 (Cx.of G A (n + 19) rm (fnScope (top 21)) rfl q code a.pieces L) (st 21 1) σ H Qn Qr := by
  refine ⟨?_⟩
  refine puts_loop s1 s3 hp k1 ⟨by simp, fun x => by simp [EndK]⟩ (by simp) hz ne (by walk_at "own") (by walk_at "own") (by walk_at "own") (fun q => Ev.local (by kernel_rfl) s1 q) ?_ ?_
  · intro σ' H' kvs' p t1 t2 t3 t4 t5
    refine Ex.cons ?_
    repeat walk_at "ev"
    refine ⟨fun e => ?_, fun e => ?_⟩
    · have e := of_decide_eq_true e
      rw [if_pos e]
      refine Ex.cons ?_
      refine Ex1.setitem ?_
      repeat walk_at "ev"
      refine Si.int t4 (by omega) ?_
      refine Ex.cons ?_
      refine Ex1.setitem ?_
      repeat walk_at "ev"
      have := sto_le kvs' p.1 (.bool true)
      refine Si.int (AH.put_self _ _ _) (by omega) ?_
      refine Ex.nil ?_
      refine Ex.nil ⟨rfl, rfl⟩
    · have e := of_decide_eq_false e
      rw [if_neg e]
      refine Ex.nil ?_
      refine Ex.nil ⟨rfl, rfl⟩
  intro σ2 H2 kvs so E2 k2 hk hl
  exact h σ2 H2 kvs ((so _ (by decide) (by decide) (by decide)).trans s1) ((so _ (by decide) (by decide) (by decide)).trans s2) ((so _ (by decide) (by decide) (by decide)).trans s3) E2 k2 hk hl
theorem pc2 {kvs : List (Int × V)} (rm : Rm A (n + 19)) (s3 : σ "ends" = some (.ref en)) (k2 : H en = some (.zd kvs)) (hk : Keys kvs (EndK ps)) (hl : kvs.length ≤ 63) (hr : ∀ p ∈ ps, 0 ≤ p.1)
    (h : ∀ pl lo fo H3, PPl ps pl → Ext H H3 → lo ≠ fo → H fo = none → H3 fo = some (.list []) → H3 lo = some (.list (pl.map .int)) → pl.length ≤ kvs.length → Qn (Lo.put (Lo.put σ "found" (.ref fo)) "places" (.ref lo)) H3) :
    X1 (Cx.of G A (n + 19) rm (fnScope (top 21)) rfl q code a.pieces L) (st 21 2) σ H Qn Qr := by
  refine ⟨?_⟩
  refine Ex1.assignTS (names := ["places", "found"]) ?_
  refine Ev.tuple ?_
  refine Es.cons ?_
  refine Ev.comp (CompOk.of (by kernel_rfl)) ?_
  refine Co.pure ?_
  refine Ei.list ?_
  repeat walk_at "ev"
  refine Cl.sortedZ (n := n) (rm.base) k2 (by omega) fun ro ns hro perm srt => ?_
  obtain ⟨f, hf, hfm⟩ := fm_of V.int (fun x y e => by cases e; rfl) (fun x => decide (x ≤ 1114111)) V.int
  have hn0 : ∀ x, EndK ps x → 0 ≤ x := fun x hx => by
    rcases hx with e | ⟨p, hp, h1, h2⟩
    · omega
    · have := hr p hp; omega
  obtain ⟨srt', mem, pt, hpt⟩ := pl_of hk.1 perm srt ((hk.2 0).mpr (.inl rfl)) fun x hx => hn0 x ((hk.2 x).mp hx)
  refine ⟨ro, _, rfl, AH.put_self _ _ _, f, AH.put_self _ _ _, by rw [List.length_map, perm.length_eq, List.length_map]; omega, fun L w hw => ?_, ?_⟩
  · obtain ⟨i, _, rfl⟩ := List.mem_map.mp hw
    refine ⟨[("place", .int i)], rfl, bl1 rfl, ?_⟩
    show Et _ _ _ _ _
    repeat walk_at "ev"
    refine ⟨fun e => ?_, fun e => ?_⟩
    · repeat walk_at "ev"
      rw [hf, if_pos e]
    · rw [hf, if_neg (by rw [e]; decide)]
  rw [hfm]
  intro lo hlo
  repeat walk_at "ev"
  intro fo hfo
  repeat walk_at "ev"
  refine ⟨on2 (by walk_at "own") (by walk_at "own"), ?_⟩
  exact h _ lo fo _ ⟨srt', fun x => by rw [mem x, hk.2 x], by rw [hpt]; rfl, fun x hx => hn0 x ((hk.2 x).mp ((mem x).mp hx).1)⟩ (((Ext.put hro).trans (Ext.put hlo)).trans (Ext.put hfo)) (fun q => by subst q; rw [AH.put_self] at hfo; cases hfo)
    (Ext.none (Ext.put hro) (Ext.none (Ext.put hlo) hfo)) (AH.put_self _ _ _) (Ext.put hfo _ _ (AH.put_self _ _ _)) (Nat.le_trans (List.length_filter_le _ _) (by rw [perm.length_eq, List.length_map]; exact Nat.le_refl _))
/-- told, behind -/
theorem pc3 {i : Nat} (rm : Rm A (n + 19)) (v2 : σ "default" = some dflt.v) (v3 : σ "places" = some (.ref lo)) (w5 : σ "at" = some (.int i)) (p3 : H lo = some (.list (pl.map .int))) (h : Qn (Lo.put (Lo.put σ "behind" (.int (endOf pl (i + 1)))) "told" dflt.v) H) :
    Ex1 (Cx.of G A (n + 19) rm (fnScope (top 21)) rfl q code a.pieces L) (sti (st 21 3) 0) σ H Qn Qr := by
  refine Ex1.assignTS (names := ["told", "behind"]) ?_
  repeat walk_at "ev"
  rw [List.length_map]
  refine ⟨fun e2 => ?_, fun e2 => ?_⟩
  · have e2 : (i : Int) + 1 < pl.length := by simpa using e2
    have hq : pl[i + 1]? = some pl[i + 1] := List.getElem?_eq_getElem (by omega)
    generalize pl[i + 1] = y at hq
    repeat walk_at "ev"
    refine Do.item p3 (by omega) (by rw [show ((i : Int) + 1).toNat = i + 1 by omega, List.getElem?_map, hq]; rfl) ?_
    repeat walk_at "ev"
    refine ⟨on2 (by walk_at "own") (by walk_at "own"), ?_⟩
    have ez : endOf pl (i + 1) = y - 1 := by unfold endOf; rw [hq]
    rw [ez] at h
    exact h
  · have e2 : pl.length ≤ i + 1 := by have : (pl.length : Int) ≤ (i : Int) + 1 := by simpa using e2
                                      omega
    repeat walk_at "ev"
    refine ⟨on2 (by walk_at "own") (by walk_at "own"), ?_⟩
    have ez : endOf pl (i + 1) = 1114111 := by unfold endOf; rw [List.getElem?_eq_none e2]
    rw [ez] at h
    exact h
theorem pc4 {x : Int} (rm : Rm A (n + 19)) (w1 : σ "puts" = some (.ref pu)) (w6 : σ "place" = some (.int x)) (w7 : σ "told" = some dflt.v) (u3 : H pu = some (.list (ps.map tv)))
    (h : ∀ σ', (∀ y : Str, y ≠ "first" → y ≠ "last" → y ≠ "value" → y ≠ "told" → σ' y = σ y) → σ' "told" = some (tolds ps dflt x).v → Qn σ' H) :
    Ex1 (Cx.of G A (n + 19) rm (fnScope (top 21)) rfl q code a.pieces L) (sti (st 21 3) 1) σ H Qn Qr := by
  refine told_loop w6 w7 u3 (by walk_at "own") (by walk_at "own") (by walk_at "own") (fun q => Ev.local (by kernel_rfl) w1 q) ?_ h
  intro σ' p y1 y2 y3 y4
  refine Ex.cons ?_
  repeat walk_at "ev"
  refine ⟨fun e => ?_, fun e => ?_⟩
  · have e := of_decide_eq_false e
    refine ⟨fun e => (by cases e), fun _ => ?_⟩
    refine Ex.nil ?_
    refine Ex.nil ⟨rfl, ?_⟩
    rw [if_neg (fun z => e z.1)]
  · have e := of_decide_eq_true e
    repeat walk_at "ev"
    refine ⟨fun e2 => ?_, fun e2 => ?_⟩
    · have e2 := of_decide_eq_true e2
      repeat walk_at "ev"
      rw [if_pos ⟨e, e2⟩]
    · have e2 := of_decide_eq_false e2
      refine Ex.nil ?_
      refine Ex.nil ⟨rfl, ?_⟩
      rw [if_neg (fun z => e2 z.2)]
theorem pc5 {x z : Int} {t : S} {l : List (Int × S)} (rm : Rm A (n + 19)) (w4 : σ "found" = some (.ref fo)) (w6 : σ "place" = some (.int x)) (w8 : σ "behind" = some (.int z)) (y7 : σ "told" = some t.v) (ht : t ∈ US) (hu : ∀ q ∈ l, q.2 ∈ US) (hl' : l.length ≤ 200)
    (hf : H fo = some (.list ((rowsTo l (x - 1)).map tv)))
    (h1 : ∀ H' l0 k, l = l0 ++ [(k, t)] → H' fo = some (.list ((rowsTo l z).map tv)) → ExtB fo H H' → Qn σ H')
    (h2 : ∀ H', (∀ q, l.getLast? = some q → q.2 ≠ t) → H' fo = some (.list ((rowsTo (l ++ [(x, t)]) z).map tv)) → ExtB fo H H' → Qn σ H') :
    Ex1 (Cx.of G A (n + 19) rm (fnScope (top 21)) rfl q code a.pieces L) (sti (st 21 3) 2) σ H Qn Qr := by
  refine Ex1.if_ ?_
  repeat walk_at "ev"
  intro c hcn
  have hf' := Ext.put (o := .list []) hcn _ _ hf
  refine Do.neD (n := n) (rm.to) (tL_rd hf') (tL_rd (l := []) (AH.put_self _ _ _)) (shaped_tL (tL_us hu _)) (shaped_tL (fun r hr => by cases hr)) ?_
  rw [eqv_tL]
  have hE : ExtB fo H (AH.put H c (.list [])) := (Ext.put hcn).b
  generalize (AH.put H c (.list [])) = H6 at *
  refine ⟨_, rfl, fun e => ?_, fun e => ?_⟩
  · have e : rowsTo l (x - 1) = [] := by simpa using e
    have e : l = [] := by have := rowsTo_len l (x - 1); rw [e] at this; exact List.eq_nil_of_length_eq_zero this.symm
    subst e
    refine ⟨fun e => (by cases e), fun _ => ?_⟩
    repeat walk_at "ev"
    refine Cl.append hf' (by show 0 ≤ _; omega) ?_
    exact ⟨rfl, Ex.nil (h2 _ (fun q hq => by cases hq) (AH.put_self _ _ _) (hE.trans .put))⟩
  · have e : rowsTo l (x - 1) ≠ [] := by simpa using e
    have e : l ≠ [] := fun q => by subst q; exact e rfl
    obtain ⟨l0, y, rfl⟩ : ∃ l0 y, l = l0 ++ [y] := ⟨l.dropLast, l.getLast e, (List.dropLast_concat_getLast e).symm⟩
    obtain ⟨k, v⟩ := y
    rw [rowsTo_snoc, List.map_append] at hf'
    have hv : v ∈ US := hu (k, v) (by simp)
    change H6 fo = some (.list ((rowsTo l0 (k - 1)).map tv ++ [.tup [.int k, .int (x - 1), v.v]])) at hf'
    repeat walk_at "ev"
    refine Cl.reprUS (n := n) (rm.to) hv ?_
    repeat walk_at "ev"
    refine Cl.reprUS (n := n) (rm.to) ht ?_
    repeat walk_at "ev"
    rw [US_shown hv ht]
    refine ⟨fun e => ?_, fun e => ?_⟩
    · have e : v = t := of_decide_eq_true e
      subst e
      refine Ex.cons ?_
      refine Ex1.setitem ?_
      repeat walk_at "ev"
      refine Si.last hf' ?_
      refine Ex.nil (h1 _ l0 k rfl ?_ (hE.trans .put))
      rw [AH.put_self, rowsTo_snoc, List.map_append]; rfl
    · have e : v ≠ t := of_decide_eq_false e
      repeat walk_at "ev"
      refine Cl.append hf' ?_ ?_
      · rw [List.length_append, List.length_map, rowsTo_len]
        have := hl'
        rw [List.length_append] at this
        simp at this ⊢
        omega
      refine ⟨rfl, Ex.nil (h2 _ (fun q hq => ?_) ?_ (hE.trans .put))⟩
      · rw [List.getLast?_concat] at hq; cases hq; exact e
      · rw [AH.put_self, rowsTo_snoc, rowsTo_snoc, List.map_append, List.map_append]; rfl
/-- a turn -/
theorem pc6 {H3 : AH} {l : List (Int × S)} {i : Nat} {x : Int} (rm : Rm A (n + 19)) (u3 : H3 pu = some (.list (ps.map tv))) (us : ∀ p ∈ ps, 0 ≤ p.1 ∧ p.2.1 ≤ 1114111 ∧ p.2.2 ∈ US) (ud : dflt ∈ US) (P : PPl ps pl) (p3 : H3 lo = some (.list (pl.map .int))) (nfp : pu ≠ fo) (nfl : lo ≠ fo) (hpl : pl.length ≤ 63) (hx : pl[i]? = some x)
    (R : PSt pu lo fo dflt ps pl H3 i σ H l) : Ex (Cx.of G A (n + 19) rm (fnScope (top 21)) rfl q code a.pieces L) (whBody (st 21 3)) (Lo.put (Lo.put σ "at" (.int i)) "place" (.int x)) H (fun σ' H' => PLoop pu lo fo dflt ps pl H3 (i + 1) σ' H') Qr := by
  obtain ⟨xe, exi⟩ := pl_end P.srt (fun x hx => ((P.mem x).mp hx).2) hx
  have x0 : 0 ≤ x := P.nn x (List.mem_of_getElem? hx)
  have hc : ∀ j, x ≤ j → j ≤ endOf pl (i + 1) → tolds ps dflt j = tolds ps dflt x := fun j h1 h2 => EndK.const P.srt P.mem (fun p hp => (us p hp).2.1) hx h1 h2
  have ht : tolds ps dflt x ∈ US := tolds_us (fun p hp => (us p hp).2.2) ud x
  have hi : i < pl.length := (List.getElem?_eq_some_iff.mp hx).1
  obtain ⟨v1, v2, v3, v4, hf, hE, hI, hl', hu⟩ := R
  rw [exi] at hf hI
  refine Ex.cons (pc3 ok rm (by walk_at "lo") (by walk_at "lo") (by walk_at "lo") (hE _ _ nfl p3) ?_)
  refine Ex.cons (pc4 ok rm (by walk_at "lo") (by walk_at "lo") (Lo.put_self _ _ _) (hE _ _ nfp u3) fun σ6 so y7 => ?_)
  have w1 := (so "puts" (by decide) (by decide) (by decide) (by decide)).trans (show _ = some (V.ref pu) by walk_at "lo")
  have w2 := (so "default" (by decide) (by decide) (by decide) (by decide)).trans (show _ = some dflt.v by walk_at "lo")
  have w3 := (so "places" (by decide) (by decide) (by decide) (by decide)).trans (show _ = some (V.ref lo) by walk_at "lo")
  have w4 := (so "found" (by decide) (by decide) (by decide) (by decide)).trans (show _ = some (V.ref fo) by walk_at "lo")
  refine Ex.cons (pc5 ok rm w4 ((so _ (by decide) (by decide) (by decide) (by decide)).trans (show _ = some (V.int x) by walk_at "lo")) ((so _ (by decide) (by decide) (by decide) (by decide)).trans (show _ = some (V.int (endOf pl (i + 1))) by walk_at "lo")) y7 ht hu (by omega) hf (fun H' l0 k e g E => ?_) fun H' e g E => ?_)
  · subst e
    exact Ex.nil ⟨_, w1, w2, w3, w4, g, hE.trans E, hI.keep xe hc, Nat.le_succ_of_le hl', hu⟩
  · refine Ex.nil ⟨_, w1, w2, w3, w4, g, hE.trans E, hI.snoc x0 xe hc e, by rw [List.length_append]; exact Nat.succ_le_succ hl', fun q hq => ?_⟩
    rcases List.mem_append.mp hq with hq | hq
    · exact hu q hq
    · rw [List.mem_singleton] at hq; subst hq; exact ht
theorem pc7 (rm : Rm A (n + 19)) (u3 : H pu = some (.list (ps.map tv))) (us : ∀ p ∈ ps, 0 ≤ p.1 ∧ p.2.1 ≤ 1114111 ∧ p.2.2 ∈ US) (ud : dflt ∈ US) (P : PPl ps pl) (p3 : H lo = some (.list (pl.map .int))) (nfp : pu ≠ fo) (nfl : lo ≠ fo) (hpl : pl.length ≤ 63) (v1 : σ "puts" = some (.ref pu)) (v2 : σ "default" = some dflt.v) (v3 : σ "places" = some (.ref lo)) (v4 : σ "found" = some (.ref fo))
    (k3 : H fo = some (.list [])) (h : ∀ σ' H', PLoop pu lo fo dflt ps pl H pl.length σ' H' → Qn σ' H') : X1 (Cx.of G A (n + 19) rm (fnScope (top 21)) rfl q code a.pieces L) (st 21 3) σ H Qn Qr := by
  refine ⟨?_⟩
  refine enum_loop (lo := lo) (pl := pl) (PLoop pu lo fo dflt ps pl H) (fun Q h => ?_) p3 (by walk_at "own") (by walk_at "own") ⟨[], v1, v2, v3, v4, k3, fun _ _ _ e => e, by rw [P.z0]; exact PI.zero _, Nat.zero_le _, fun q hq => by cases hq⟩ (fun i σ' H' hh => ?_) (fun i x σ' H' hx hh => ?_) h
  · repeat walk_at "ev"
    exact Cl.enum p3 h
  · obtain ⟨l, s⟩ := hh
    exact s.hE _ _ nfl p3
  · obtain ⟨l, s⟩ := hh
    exact pc6 ok rm u3 us ud P p3 nfp nfl hpl hx s
end
section
variable {G : Gl} {a : Ad} (ok : Ok G a) {A : Around} {H : AH} {Q : V → AH → Prop} {n : Nat}
include ok
set_option maxHeartbeats 1000000 in
theorem c_pieces {pu : Addr} {ps : List (Int × Int × S)} {dflt : S} (rm : Rm A (n + 20)) (hp : H pu = some (.list (ps.map tv))) (hz : ps.length ≤ 8) (us : ∀ p ∈ ps, 0 ≤ p.1 ∧ p.2.1 ≤ 1114111 ∧ p.2.2 ∈ US) (ud : dflt ∈ US)
    (h : ∀ b l H', RW l (tolds ps dflt) → l.length ≤ 2 * ps.length + 1 → (∀ q ∈ l, q.2 ∈ US) → H b = none → Ext H H' → H' b = some (.list ((rowsOf l).map tv)) → Q (.ref b) H') : Clc G A (.ref a.pieces) [.ref pu, dflt.v] H Q := by
  refine Clc.enter rm ok.pieces rfl (by kernel_rfl) (by kernel_rfl) (by kernel_rfl) (by decide) fun env q code L => ?_
  refine Ex.consX (pc0 ok (rm.deeper env) fun en hen => ?_)
  have ne : pu ≠ en := fun q => by subst q; rw [hen] at hp; cases hp
  refine Ex.consX (pc1 ok (rm.deeper env) (ps := ps) (pu := pu) (dflt := dflt) (by walk_at "lo") (by walk_at "lo") (Lo.put_self _ _ _) (AH.put_self _ _ _) (Ext.put hen _ _ hp) hz ne fun σ2 H2 kvs t1 t2 t3 E2 k2 hk hl => ?_)
  have e0 : Ext H H2 := fun z o e => E2 _ _ (fun q => by subst q; rw [hen] at e; cases e) (Ext.put hen _ _ e)
  refine Ex.consX (pc2 ok (rm.deeper env) t3 k2 hk (by omega) (fun p hp => (us p hp).1) fun pl lo fo H3 P E3 nfl hfo k3 p3 hpl => ?_)
  have E03 := e0.trans E3
  have hfo0 := Ext.none e0 hfo
  have nf : ∀ {z o}, H z = some o → z ≠ fo := fun e q => by subst q; rw [hfo0] at e; cases e
  refine Ex.consX (pc7 ok (rm.deeper env) (E03 _ _ hp) us ud P p3 (nf hp) nfl (by omega) (by walk_at "lo") (by walk_at "lo") (Lo.put_self _ _ _) (by walk_at "lo") k3 fun σ' H' hh => ?_)
  obtain ⟨l, v1, v2, v3, v4, hf, hE, hI, hl', hu⟩ := hh
  have ze : endOf pl pl.length = 1114111 := by unfold endOf; rw [List.getElem?_eq_none (Nat.le_refl _)]
  rw [ze] at hf hI
  rw [← rowsOf_to] at hf
  repeat walk_at "ev"
  exact h fo l H' hI.rw (by omega) hu hfo0 (fun b o' e' => hE _ _ (nf e') (E03 _ _ e')) hf
end
noncomputable def inP (ps : List (Int × Int)) (k : Int) : Bool := ps.any fun p => decide (p.1 ≤ k) && decide (k ≤ p.2)
noncomputable def partOf (l : List (Int × S)) (s : S) : List (Int × Int) := ((rowsOf l).filter fun r => decide (r.2.2 = s)).map fun r => (r.1, r.2.1)
theorem shaped_pL (l : List (Int × Int)) : SeqAt.shaped (pL l) = true := by
  have key : PyData.canLayAll0 (l.map pD) = true ∧ PyData.depthAll (l.map pD) ≤ 1 := by
    induction l with
    | nil => exact ⟨rfl, Nat.zero_le _⟩
    | cons r t ih =>
      obtain ⟨a, b⟩ := ih
      refine ⟨by simp only [List.map_cons, PyData.canLayAll0, pD, PyData.canLay0, a, Bool.and_true], ?_⟩
      simp only [List.map_cons, PyData.depthAll, pD, PyData.depth]; omega
  obtain ⟨a, b⟩ := key
  unfold SeqAt.shaped pL
  rw [show (PyData.list (l.map pD)).canLay0 = true by simpa only [PyData.canLay0] using a, Bool.true_and, decide_eq_true_eq]
  simp only [PyData.depth]; omega
theorem eqv_pL_nil (l : List (Int × Int)) : PyData.eqv (pL l) (pL []) = decide (l = []) := by
  unfold pL
  rw [List.map_nil, eqv_refl_list]
  cases l <;> rfl
section
variable {G : Gl} {a : Ad} (ok : Ok G a) {A : Around} {H : AH} {Q : V → AH → Prop} {n : Nat}
include ok
local macro_rules | `(tactic| walk_at "ev") => `(tactic| with_reducible first | refine Ev.cell (x := Str.ofString "value") (by kernel_rfl) (by walk_at "lo") ?_ | refine Ev.cell (x := Str.ofString "code") (by kernel_rfl) (by walk_at "lo") ?_)
theorem c_part {b : Addr} {l : List (Int × S)} {s : S} (rm : Rm A (n + 20)) (hb : H b = some (.list ((rowsOf l).map tv))) (hz : l.length ≤ 100) (us : ∀ q ∈ l, q.2 ∈ US) (hs : s ∈ US)
    (h : ∀ b H', H b = none → Ext H H' → H' b = some (.list ((partOf l s).map pv)) → Q (.ref b) H') : Clc G A (.ref a.part) [.ref b, s.v] H Q := by
  refine Clc.enter rm ok.part rfl (by kernel_rfl) (by kernel_rfl) (by kernel_rfl) (by decide) fun env q code L => ?_
  refine Ex.cons ?_
  refine Ex1.ret ?_
  refine Ev.comp (CompOk.of (by kernel_rfl)) ?_
  refine Co.pure ?_
  refine Ei.list ?_
  repeat walk_at "ev"
  obtain ⟨f, hf, hfm⟩ := fm_of tv tv_inj (fun r => decide (r.2.2 = s)) (fun r => pv (r.1, r.2.1))
  refine ⟨b, _, rfl, hb, f, hb, by rw [List.length_map, rowsOf_len]; omega, fun L w hw => ?_, ?_⟩
  · obtain ⟨r, hr, rfl⟩ := List.mem_map.mp hw
    refine ⟨[("first", .int r.1), ("last", .int r.2.1), ("told", r.2.2.v)], rfl, bl3 rfl rfl rfl, ?_⟩
    have hr' : r.2.2 ∈ US := by rw [rowsOf_to] at hr; exact tL_us us _ r hr
    show Et _ _ _ _ _
    repeat walk_at "ev"
    refine Cl.reprUS (n := n) ((rm.deeper env).to) hr' ?_
    repeat walk_at "ev"
    refine Cl.reprUS (n := n) ((rm.deeper env).to) hs ?_
    repeat walk_at "ev"
    rw [US_shown hr' hs]
    refine ⟨fun e => ?_, fun e => ?_⟩
    · repeat walk_at "ev"
      rw [hf, if_pos e]
    · rw [hf, if_neg (by rw [e]; decide)]
  · rw [hfm]
    intro b2 hb2
    refine h b2 _ hb2 (Ext.put hb2) ?_
    rw [AH.put_self]
    unfold partOf
    rw [List.map_map]; rfl
theorem c_has {b : Addr} {ps : List (Int × Int)} {k : Int} (rm : Rm A (n + 20)) (hb : H b = some (.list (ps.map pv))) (hz : ps.length ≤ 100)
    (h : ∀ H', Ext H H' → Q (.bool (inP ps k)) H') : Clc G A (.ref a.has) [.ref b, .int k] H Q := by
  refine Clc.enter rm ok.has rfl (by kernel_rfl) (by kernel_rfl) (by kernel_rfl) (by decide) fun env q code L => ?_
  refine Ex.cons ?_
  refine Ex1.ret ?_
  refine Ev.compare ?_
  refine Ev.comp (CompOk.of (by kernel_rfl)) ?_
  refine Co.pure ?_
  refine Ei.list ?_
  repeat walk_at "ev"
  obtain ⟨f, hf, hfm⟩ := fm_of pv pv_inj (fun p => decide (p.1 ≤ k) && decide (k ≤ p.2)) pv
  refine ⟨b, _, rfl, hb, f, hb, by rw [List.length_map]; omega, fun L w hw => ?_, ?_⟩
  · obtain ⟨r, hr, rfl⟩ := List.mem_map.mp hw
    refine ⟨[("one", pv r)], rfl, bl1 rfl, ?_⟩
    show Et _ _ _ _ _
    repeat walk_at "ev"
    refine ⟨fun e => ?_, fun e => ?_⟩
    · refine ⟨rfl, fun e => (by cases e), fun _ => ?_⟩
      rw [hf, if_neg (by rw [e]; exact Bool.false_ne_true)]
    · repeat walk_at "ev"
      refine ⟨fun e2 => ?_, fun e2 => ?_⟩
      · repeat walk_at "ev"
        rw [hf, if_pos (by rw [e, e2]; rfl)]
      · rw [hf, if_neg (by rw [e, e2]; exact Bool.false_ne_true)]
  · rw [hfm]
    intro b2 hb2
    repeat walk_at "ev"
    intro b3 hb3
    refine Do.neD (n := n) ((rm.deeper env).to) (pL_rd (Ext.put hb3 _ _ (AH.put_self _ _ _))) (pL_rd (l := []) (AH.put_self _ _ _)) (shaped_pL _) (shaped_pL _) ?_
    rw [eqv_pL_nil]
    have e : (!decide ((ps.filter fun p => decide (p.1 ≤ k) && decide (k ≤ p.2)) = [])) = inP ps k := by
      rw [Bool.eq_iff_iff]
      unfold inP
      simp only [Bool.not_eq_true', decide_eq_false_iff_not, List.any_eq_true, List.filter_eq_nil_iff]
      constructor
      · intro q
        refine Classical.byContradiction fun z => q fun x hx e => z ⟨x, hx, e⟩
      · rintro ⟨x, hx, e⟩ q
        exact q x hx e
    rw [e]
    exact h _ ((Ext.put hb2).trans (Ext.put hb3))
end
noncomputable def wayOf (w : Nat) (p q : Bool) : Bool := match w with
  | 0 => p || q
  | 1 => p && q
  | 2 => p && !q
  | _ => !p
theorem rangesOf_snoc {l : List Int} (h : l.length % 2 = 0) (x y : Int) : rangesOf (l ++ [x, y]) = rangesOf l ++ [(x, y - 1)] := by
  unfold rangesOf
  have e : (l ++ [x, y]).length / 2 = l.length / 2 + 1 := by rw [List.length_append]; simp
  have l2 : 2 * (l.length / 2) = l.length := by omega
  rw [e, List.range_succ, List.map_append]
  congr 1
  · refine List.map_congr_left fun j hj => ?_
    have hj := List.mem_range.mp hj
    simp only [List.getD_eq_getElem?_getD]
    rw [List.getElem?_append_left (by omega), List.getElem?_append_left (by omega)]
  · simp only [List.map_cons, List.map_nil, List.getD_eq_getElem?_getD]
    rw [List.getElem?_append_right (by omega), List.getElem?_append_right (by omega), l2, Nat.sub_self, show l.length + 1 - l.length = 1 by omega]
    rfl
theorem rangesOf_len (l : List Int) : (rangesOf l).length = l.length / 2 := by simp [rangesOf]
theorem rangesOf_nil {l : List Int} (h : l.length % 2 = 0) : rangesOf l = [] ↔ l = [] := by
  constructor
  · intro e
    have := rangesOf_len l
    rw [e] at this
    exact List.eq_nil_of_length_eq_zero (by simp at this; omega)
  · rintro rfl; rfl
noncomputable def EndQ (ps : List (Int × Int)) (x : Int) : Prop := x = 0 ∨ ∃ p ∈ ps, x = p.1 ∨ x = p.2 + 1
theorem EndQ.snoc {ps : List (Int × Int)} {p : Int × Int} (x : Int) : ((EndQ ps x ∨ x = p.1) ∨ x = p.2 + 1) ↔ EndQ (ps ++ [p]) x := by
  unfold EndQ
  constructor
  · rintro (((h0 | ⟨r, hr, h1⟩) | h0) | h0)
    · exact .inl h0
    · exact .inr ⟨r, List.mem_append_left _ hr, h1⟩
    · exact .inr ⟨p, by simp, .inl h0⟩
    · exact .inr ⟨p, by simp, .inr h0⟩
  · rintro (h0 | ⟨r, hr, h2⟩)
    · exact .inl (.inl (.inl h0))
    · rcases List.mem_append.mp hr with hr | hr
      · exact .inl (.inl (.inr ⟨r, hr, h2⟩))
      · rw [List.mem_singleton] at hr; subst hr
        rcases h2 with h2 | h2
        · exact .inl (.inr h2)
        · exact .inr h2
theorem inP_congr {ps : List (Int × Int)} {j k : Int} (h : ∀ p ∈ ps, (p.1 ≤ j ∧ j ≤ p.2) ↔ (p.1 ≤ k ∧ k ≤ p.2)) : inP ps j = inP ps k := by
  rw [Bool.eq_iff_iff]
  unfold inP
  simp only [List.any_eq_true, Bool.and_eq_true, decide_eq_true_eq]
  constructor
  · rintro ⟨p, hp, e⟩; exact ⟨p, hp, (h p hp).mp e⟩
  · rintro ⟨p, hp, e⟩; exact ⟨p, hp, (h p hp).mpr e⟩
theorem EndQ.const {ps : List (Int × Int)} {pl : List Int} {D : Int → Prop} (srt : pl.Pairwise (· < ·)) (mem : ∀ x, x ∈ pl ↔ D x ∧ x ≤ 1114111) (hD : ∀ p ∈ ps, D p.1 ∧ D (p.2 + 1)) {i : Nat} {x : Int} (hx : pl[i]? = some x) {j : Int} (h1 : x ≤ j)
    (h2 : j ≤ endOf pl (i + 1)) : inP ps j = inP ps x := by
  refine inP_congr fun p hp => ?_
  have g := pl_gap srt hx h2
  obtain ⟨d1, d2⟩ := hD p hp
  have jb := Int.le_trans h2 (endOf_le (fun z hz => ((mem z).mp hz).2) (i + 1))
  by_cases q : p.1 ≤ 1114111
  · have g1 := g p.1 ((mem _).mpr ⟨d1, q⟩)
    by_cases q2 : p.2 + 1 ≤ 1114111
    · have g2 := g (p.2 + 1) ((mem _).mpr ⟨d2, q2⟩)
      omega
    · omega
  · omega
theorem pv_get {ps : List (Int × Int)} {i : Nat} {x : V} (h : (ps.map pv)[i]? = some x) : ∃ p, ps[i]? = some p ∧ x = pv p ∧ ps.take (i + 1) = ps.take i ++ [p] := by
  rw [List.getElem?_map, Option.map_eq_some_iff] at h
  obtain ⟨p, hp, rfl⟩ := h
  exact ⟨p, hp, rfl, by rw [List.take_add_one, hp]; rfl⟩
theorem BInv.mono {rest rest' : List (Int × Int)} {S f} (h : BInv rest S f) (m : ∀ p ∈ rest', ∃ q ∈ rest, q.1 = p.1) : BInv rest' S f := by
  cases h with
  | nil h => exact .nil h
  | snoc hg hl hxy he hr =>
    refine .snoc hg hl hxy he fun p hp => ?_
    obtain ⟨q, hq, e⟩ := m p hp
    have := hr q hq
    omega
theorem BInv.congr {rest : List (Int × Int)} {S T f} (h : BInv rest S f) (e : ∀ k, S k ↔ T k) : BInv rest T f := by
  rw [← (funext fun k => propext (e k) : S = T)]; exact h
/-- the state of _law_mixed between two turns -/
structure XI (W : Int → Bool) (pl : List Int) (i : Nat) (l : List Int) : Prop where
  inv : BInv ((pl.drop i).map fun x => (x, x)) (fun k => (0 ≤ k ∧ k ≤ endOf pl i) ∧ W k = true) l
  len : l.length ≤ 2 * i
  mx : ∀ z ∈ l, z ≤ endOf pl i + 1
theorem XI.zero {W : Int → Bool} {pl : List Int} (h : endOf pl 0 = -1) : XI W pl 0 [] := ⟨.nil fun k => by rw [h]; omega, Nat.le_refl _, fun z hz => by cases hz⟩
theorem XI.skip {W : Int → Bool} {pl : List Int} {i : Nat} {l : List Int} {x : Int} (X : XI W pl i l) (hx : pl[i]? = some x) (hi : endOf pl i = x - 1) (hle : x ≤ endOf pl (i + 1)) (hc : ∀ j, x ≤ j → j ≤ endOf pl (i + 1) → W j = W x) (hw : W x = false) : XI W pl (i + 1) l := by
  have hd : pl.drop i = x :: pl.drop (i + 1) := by
    have hl := (List.getElem?_eq_some_iff.mp hx)
    rw [List.drop_eq_getElem_cons hl.1, hl.2]
  refine ⟨(X.inv.mono fun p hp => ⟨p, by rw [hd]; exact List.mem_cons_of_mem _ hp, rfl⟩).congr fun k => ?_, Nat.le_trans X.len (by omega), fun z hz => by have := X.mx z hz; omega⟩
  rw [hi]
  constructor
  · rintro ⟨⟨a, b⟩, c⟩; exact ⟨⟨a, by omega⟩, c⟩
  · rintro ⟨⟨a, b⟩, c⟩
    by_cases q : x ≤ k
    · rw [hc k q b, hw] at c; cases c
    · exact ⟨⟨a, by omega⟩, c⟩
theorem XI.step {W : Int → Bool} {pl : List Int} {i : Nat} {l : List Int} {x : Int} (X : XI W pl i l) (srt : pl.Pairwise (· < ·)) (hx : pl[i]? = some x) (h0 : 0 ≤ x) (hi : endOf pl i = x - 1) (hle : x ≤ endOf pl (i + 1)) (hc : ∀ j, x ≤ j → j ≤ endOf pl (i + 1) → W j = W x) (hw : W x = true) :
    XI W pl (i + 1) (stepB l (x, endOf pl (i + 1))) := by
  have hl := (List.getElem?_eq_some_iff.mp hx)
  have hd : pl.drop i = x :: pl.drop (i + 1) := by rw [List.drop_eq_getElem_cons hl.1, hl.2]
  have b1 : BInv ((x, endOf pl (i + 1)) :: (pl.drop (i + 1)).map fun x => (x, x)) (fun k => (0 ≤ k ∧ k ≤ endOf pl i) ∧ W k = true) l := X.inv.mono fun p hp => by
    rw [hd]
    rcases List.mem_cons.mp hp with rfl | hp
    · exact ⟨(x, x), List.mem_cons_self, rfl⟩
    · exact ⟨p, List.mem_cons_of_mem _ hp, rfl⟩
  have b2 := b1.step hle fun q hq => by
    obtain ⟨y, hy, rfl⟩ := List.mem_map.mp hq
    have s2 : (pl.drop i).Pairwise (· < ·) := srt.drop
    rw [hd] at s2
    exact Int.le_of_lt ((List.pairwise_cons.mp s2).1 y hy)
  refine ⟨b2.congr fun k => ?_, ?_, ?_⟩
  · rw [hi]
    constructor
    · rintro (⟨⟨a, b⟩, c⟩ | ⟨a, b⟩)
      · exact ⟨⟨a, by omega⟩, c⟩
      · exact ⟨⟨Int.le_trans h0 a, b⟩, by rw [hc k a b]; exact hw⟩
    · rintro ⟨⟨a, b⟩, c⟩
      by_cases q : x ≤ k
      · exact .inr ⟨q, b⟩
      · exact .inl ⟨⟨a, by omega⟩, c⟩
  · have := X.len
    unfold stepB
    split
    · rename_i y hy
      have ne : l ≠ [] := fun q => by subst q; cases hy
      have := List.length_pos_iff.mpr ne
      split
      · rw [List.length_append, List.length_dropLast]; simp; omega
      · rw [List.length_append]; simp; omega
    · rw [List.length_append]; simp; omega
  · have m := X.mx
    intro z hz
    unfold stepB at hz
    split at hz
    · rename_i y hy
      have my := m y (List.mem_of_getLast? hy)
      split at hz
      · rcases List.mem_append.mp hz with hz | hz
        · have := m z ((List.dropLast_sublist l).subset hz); omega
        · rw [List.mem_singleton] at hz; subst hz
          dsimp only
          split <;> omega
      · rcases List.mem_append.mp hz with hz | hz
        · have := m z hz; omega
        · simp at hz; rcases hz with rfl | rfl <;> omega
    · rcases List.mem_append.mp hz with hz | hz
      · have := m z hz; omega
      · simp at hz; rcases hz with rfl | rfl <;> omega
section
variable {C : Cx} {σ : Lo} {H : AH}
theorem Ev.orB {x y pos} {p q : Bool} {Q : V → AH → Prop} (hx : ∀ Q : V → AH → Prop, Q (.bool p) H → Ev C x σ H Q) (hy : ∀ Q : V → AH → Prop, Q (.bool q) H → Ev C y σ H Q) (h : Q (.bool (p || q)) H) : Ev C (.BoolOp .Or [x, y] pos) σ H Q :=
  Ev.or (hx _ ⟨p, rfl, fun e => by subst e; exact h, fun e => hy _ (by subst e; exact h)⟩)
theorem Ev.andB {x y pos} {p q : Bool} {Q : V → AH → Prop} (hx : ∀ Q : V → AH → Prop, Q (.bool p) H → Ev C x σ H Q) (hy : ∀ Q : V → AH → Prop, Q (.bool q) H → Ev C y σ H Q) (h : Q (.bool (p && q)) H) : Ev C (.BoolOp .And [x, y] pos) σ H Q :=
  Ev.and (hx _ ⟨p, rfl, fun e => by subst e; exact h, fun e => hy _ (by subst e; exact h)⟩)
/-- the loop over the ends of two lists -/
theorem ends_loop {en : Addr} {ps : List (Int × Int)} {kvs : List (Int × V)} {iter body pos t1 t2 k tp} {Qn : Lo → AH → Prop} {Qr : V → AH → Prop} (hen : σ "places" = some (.ref en))
    (hk : Keys kvs (EndQ [])) (hl : kvs.length ≤ 1) (hz : ps.length ≤ 40) (o1 : Own C "first") (o2 : Own C "last")
    (hit : Ev C iter σ H fun r H' => ∃ c, r = .ref c ∧ c ≠ en ∧ H' c = some (.list (ps.map pv)) ∧ H' en = some (.zd kvs) ∧ Ext H H')
    (hb : ∀ σ' H' kvs' (p : Int × Int), σ' "places" = some (.ref en) → σ' "first" = some (.int p.1) → σ' "last" = some (.int p.2) → H' en = some (.zd kvs') → kvs'.length ≤ 100 →
      Ex C body σ' H' (fun σ'' H'' => σ'' = σ' ∧ H'' = (H'.put en (.zd (sto kvs' p.1 (.bool true)))).put en (.zd (sto (sto kvs' p.1 (.bool true)) (p.2 + 1) (.bool true)))) Qr)
    (h : ∀ σ' H' kvs', (∀ x : Str, x ≠ "first" → x ≠ "last" → σ' x = σ x) → ExtB en H H' → H' en = some (.zd kvs') → Keys kvs' (EndQ ps) → kvs'.length ≤ 2 * ps.length + 1 → Qn σ' H')
    (hs : ∀ x, foldedSetIterable iter C.env x = pure x := by intro _; with_unfolding_all rfl) : Ex1 C (.For (.Tuple [.Name "first" t1, .Name "last" t2] k tp) iter body [] pos) σ H Qn Qr := by
  refine Ex1.for_ (Ei.list (hit.mono ?_)) hs
  rintro r H1 ⟨c, rfl, ne, hc, he, E⟩
  refine ⟨c, _, rfl, hc, fun i σ' H' => ∃ kvs', (∀ x : Str, x ≠ "first" → x ≠ "last" → σ' x = σ x) ∧ ExtB en H1 H' ∧ H' en = some (.zd kvs') ∧ Keys kvs' (EndQ (ps.take i)) ∧ kvs'.length ≤ 2 * i + 1,
    ⟨kvs, fun _ _ _ => rfl, fun _ _ _ e => e, he, hk, hl⟩, ?_, ?_, ?_⟩
  · rintro i σ' H' ⟨_, _, hE, _⟩; exact hE _ _ ne hc
  · rintro i x σ' H' hx ⟨kvs', s0, hE, h1, h2, h3⟩
    obtain ⟨p, hp', rfl, ht⟩ := pv_get hx
    have hi : i < ps.length := (List.getElem?_eq_some_iff.mp hp').1
    refine As.tg rfl (bo2 o1 o2) ?_
    have es : ∀ z, σ'.puts [("first", .int p.1), ("last", .int p.2)] z = (Lo.put (Lo.put σ' "first" (.int p.1)) "last" (.int p.2)) z := fun _ => rfl
    have s1 : ∀ x : Str, x ≠ "first" → x ≠ "last" → σ'.puts [("first", .int p.1), ("last", .int p.2)] x = σ x := fun x a b =>
      (es _).trans ((Lo.put_ne _ _ b).trans ((Lo.put_ne _ _ a).trans (s0 _ a b)))
    refine Ex.mono (hb _ H' kvs' p ?_ ?_ ?_ h1 (by omega)) ?_ fun _ _ x => x
    · exact (s1 _ (by decide) (by decide)).trans hen
    · exact (es _).trans ((Lo.put_ne _ _ (by decide)).trans (Lo.put_self _ _ _))
    · exact (es _).trans (Lo.put_self _ _ _)
    · rintro σ2 H2 ⟨rfl, rfl⟩
      rw [ht]
      have a1 := sto_le kvs' p.1 (.bool true)
      have a2 := sto_le (sto kvs' p.1 (.bool true)) (p.2 + 1) (.bool true)
      exact ⟨_, s1, (hE.trans .put).trans .put, AH.put_self _ _ _, (h2.sto.sto).congr EndQ.snoc, by omega⟩
  · rintro σ' H' ⟨kvs', s0, hE, h1, h2, h3⟩
    rw [List.length_map] at h2 h3
    rw [List.take_of_length_le (Nat.le_refl _)] at h2
    exact h σ' H' kvs' s0 (E.b.trans hE) h1 h2 h3
end
structure XL (nr fr : Addr) (way : Nat) (fo : Addr) (σ : Lo) : Prop where
  v1 : σ "near" = some (.ref nr)
  v2 : σ "far" = some (.ref fr)
  v3 : σ "way" = some (.int way)
  v5 : σ "found" = some (.ref fo)
theorem XL.put {nr fr way fo σ x v} (R : XL nr fr way fo σ) (h : (Str.ofString "near" ≠ x ∧ Str.ofString "far" ≠ x ∧ Str.ofString "way" ≠ x ∧ Str.ofString "found" ≠ x) := by decide) : XL nr fr way fo (Lo.put σ x v) :=
  ⟨(Lo.put_ne _ _ h.1).trans R.v1, (Lo.put_ne _ _ h.2.1).trans R.v2, (Lo.put_ne _ _ h.2.2.1).trans R.v3, (Lo.put_ne _ _ h.2.2.2).trans R.v5⟩
structure XPl (rs : List (Int × Int)) (pl : List Int) : Prop where
  srt : pl.Pairwise (· < ·)
  mem : ∀ x, x ∈ pl ↔ EndQ rs x ∧ x ≤ 1114111
  z0 : endOf pl 0 = -1
  nn : ∀ x ∈ pl, 0 ≤ x
structure XSt (nr fr lo fo : Addr) (way : Nat) (ps qs : List (Int × Int)) (pl : List Int) (H3 : AH) (i : Nat) (σ' : Lo) (H' : AH) (l : List Int) : Prop where
  R : XL nr fr way fo σ'
  v4 : σ' "rows" = some (.ref lo)
  hf : H' fo = some (.list ((rangesOf l).map pv))
  hE : ExtB fo H3 H'
  hX : XI (fun k => wayOf way (inP ps k) (inP qs k)) pl i l
noncomputable def XLoop (nr fr lo fo : Addr) (way : Nat) (ps qs : List (Int × Int)) (pl : List Int) (H3 : AH) (i : Nat) (σ' : Lo) (H' : AH) : Prop := ∃ l, XSt nr fr lo fo way ps qs pl H3 i σ' H' l
section
variable {G : Gl} {a : Ad} (ok : Ok G a) {A : Around} {H : AH} {σ : Lo} {Qn : Lo → AH → Prop} {Qr : V → AH → Prop} {n : Nat} {q : Str} {code : Value} {L nr fr fo en lo : Addr} {way : Nat} {ps qs : List (Int × Int)} {pl : List Int}
include ok
theorem mx0 (rm : Rm A (n + 29))
    (h : ∀ σ1 H1 en fo, XL nr fr way fo σ1 → σ1 "places" = some (.ref en) → Ext H H1 → H en = none → H fo = none → en ≠ fo → H1 en = some (.zd [(0, .bool true)]) → H1 fo = some (.list []) → Qn σ1 H1) :
    X1 (Cx.of G A (n + 29) rm (fnScope (top 24)) rfl q code a.mixed L) (st 24 0) (Lo.of (List.zip ["near", "far", "way"] [.ref nr, .ref fr, .int way])) H Qn Qr := by
  refine ⟨?_⟩
  refine Ex1.assignTS (names := ["places", "found"]) ?_
  refine Ev.tuple ?_
  refine Es.cons ?_
  refine Ev.dictZ ?_ ?_ ?_ ?_ ?_
  · rfl
  · rfl
  · exact List.cons_ne_nil _ _
  · exact Nat.le_of_ble_eq_true rfl
  refine Ed.consZ ?_
  refine Ev.int ?_
  refine ⟨_, rfl, ?_⟩
  refine Ev.bool ?_
  refine Ed.nil ?_
  refine ⟨by simp, fun en hen => ?_⟩
  repeat walk_at "ev"
  intro fo hfo
  repeat walk_at "ev"
  refine ⟨on2 (by walk_at "own") (by walk_at "own"), ?_⟩
  exact h (Lo.put (Lo.put _ "found" (.ref fo)) "places" (.ref en)) _ en fo ⟨by walk_at "lo", by walk_at "lo", by walk_at "lo", by walk_at "lo"⟩ (Lo.put_self _ _ _) ((Ext.put hen).put' (Ext.none (Ext.put hen) hfo)) hen (Ext.none (Ext.put hen) hfo)
    (fun q => by subst q; rw [AH.put_self] at hfo; cases hfo) (Ext.put hfo _ _ (AH.put_self _ _ _)) (AH.put_self _ _ _)
theorem mx1 (rm : Rm A (n + 29)) (R : XL nr fr way fo σ) (sp : σ "places" = some (.ref en)) (k1 : H en = some (.zd [(0, .bool true)])) (h1 : H nr = some (.list (ps.map pv))) (h2 : H fr = some (.list (qs.map pv))) (hz : ps.length + qs.length ≤ 31)
    (h : ∀ σ2 H2 kvs, XL nr fr way fo σ2 → σ2 "places" = some (.ref en) → ExtB en H H2 → H2 en = some (.zd kvs) → Keys kvs (EndQ (ps ++ qs)) → kvs.length ≤ 2 * (ps ++ qs).length + 1 → Qn σ2 H2) :
    X1 (Cx.of G A (n + 29) rm (fnScope (top 24)) rfl q code a.mixed L) (st 24 1) σ H Qn Qr := by
  refine ⟨?_⟩
  obtain ⟨v1, v2, v3, v5⟩ := id R
  refine ends_loop (ps := ps ++ qs) (kvs := [(0, .bool true)]) sp ⟨by simp, fun x => by simp [EndQ]⟩ (by simp) (by rw [List.length_append]; omega) (by walk_at "own") (by walk_at "own") ?_ ?_ ?_
  · repeat walk_at "ev"
    refine Do.addL h1 h2 (by rw [List.length_map]; omega) (by rw [List.length_map]; omega) fun c hc => ?_
    exact ⟨c, rfl, (fun q => by subst q; rw [k1] at hc; cases hc), by rw [AH.put_self, List.map_append], Ext.put hc _ _ k1, Ext.put hc⟩
  · intro σ' H' kvs' p t1 t2 t3 t4 t5
    refine Ex.cons ?_
    refine Ex1.setitem ?_
    repeat walk_at "ev"
    refine Si.int t4 (by omega) ?_
    refine Ex.cons ?_
    refine Ex1.setitem ?_
    repeat walk_at "ev"
    have := sto_le kvs' p.1 (.bool true)
    refine Si.int (AH.put_self _ _ _) (by omega) ?_
    refine Ex.nil ⟨rfl, rfl⟩
  intro σ2 H2 kvs so E2 k2 hk hl
  exact h σ2 H2 kvs ⟨(so _ (by decide) (by decide)).trans v1, (so _ (by decide) (by decide)).trans v2, (so _ (by decide) (by decide)).trans v3, (so _ (by decide) (by decide)).trans v5⟩ ((so _ (by decide) (by decide)).trans sp) E2 k2 hk hl
theorem mx2 {kvs : List (Int × V)} {rs : List (Int × Int)} (rm : Rm A (n + 29)) (sp : σ "places" = some (.ref en)) (k2 : H en = some (.zd kvs)) (hk : Keys kvs (EndQ rs)) (hl : kvs.length ≤ 63) (hr : ∀ p ∈ rs, 0 ≤ p.1 ∧ p.1 ≤ p.2)
    (h : ∀ pl lo H3, pl.length ≤ kvs.length → XPl rs pl → Ext H H3 → H lo = none → H3 lo = some (.list (pl.map .int)) → Qn (Lo.put σ "rows" (.ref lo)) H3) :
    X1 (Cx.of G A (n + 29) rm (fnScope (top 24)) rfl q code a.mixed L) (st 24 2) σ H Qn Qr := by
  refine ⟨?_⟩
  refine Ex1.assignComp (CompOk.of (by kernel_rfl)) (by walk_at "own") ?_ (by kernel_rfl)
  refine Co.pure ?_
  refine Ei.list ?_
  repeat walk_at "ev"
  refine Cl.sortedZ (n := n) (rm.base) k2 (by omega) fun ro ns hro perm srt => ?_
  obtain ⟨f, hf, hfm⟩ := fm_of V.int (fun x y e => by cases e; rfl) (fun x => decide (x ≤ 1114111)) V.int
  have hn0 : ∀ x, EndQ rs x → 0 ≤ x := fun x hx => by
    rcases hx with e | ⟨p, hpq, h1⟩
    · omega
    · have := hr p hpq; omega
  obtain ⟨srt', mem, pt, hpt⟩ := pl_of hk.1 perm srt ((hk.2 0).mpr (.inl rfl)) fun x hx => hn0 x ((hk.2 x).mp hx)
  refine ⟨ro, _, rfl, AH.put_self _ _ _, f, AH.put_self _ _ _, by rw [List.length_map, perm.length_eq, List.length_map]; omega, fun L w hw => ?_, ?_⟩
  · obtain ⟨i, _, rfl⟩ := List.mem_map.mp hw
    refine ⟨[("place", .int i)], rfl, bl1 rfl, ?_⟩
    show Et _ _ _ _ _
    repeat walk_at "ev"
    refine ⟨fun e => ?_, fun e => ?_⟩
    · repeat walk_at "ev"
      rw [hf, if_pos e]
    · rw [hf, if_neg (by rw [e]; decide)]
  rw [hfm]
  intro lo hlo
  refine h _ lo _ (Nat.le_trans (List.length_filter_le _ _) (by rw [perm.length_eq, List.length_map]; exact Nat.le_refl _)) ⟨srt', fun x => by rw [mem x, hk.2 x], by rw [hpt]; rfl, fun x hx => hn0 x ((hk.2 x).mp ((mem x).mp hx).1)⟩ ((Ext.put hro).trans (Ext.put hlo)) (Ext.none (Ext.put hro) hlo) (AH.put_self _ _ _)
/-- here and there -/
theorem mx3 {x : Int} (rm : Rm A (n + 29)) (R : XL nr fr way fo σ) (s4 : σ "rows" = some (.ref lo)) (s7 : σ "place" = some (.int x)) {i : Nat} (s6 : σ "at" = some (.int i)) (h1 : H nr = some (.list (ps.map pv))) (h2 : H fr = some (.list (qs.map pv))) (hz : ps.length + qs.length ≤ 31)
    (h : ∀ σ5 H5, XL nr fr way fo σ5 → σ5 "rows" = some (.ref lo) → σ5 "place" = some (.int x) → σ5 "at" = some (.int i) → σ5 "here" = some (.bool (inP ps x)) → σ5 "there" = some (.bool (inP qs x)) → Ext H H5 → Qn σ5 H5) :
    Ex1 (Cx.of G A (n + 29) rm (fnScope (top 24)) rfl q code a.mixed L) (sti (st 24 3) 0) σ H Qn Qr := by
  obtain ⟨v1, v2, v3, v5⟩ := id R
  refine Ex1.assignTS (names := ["here", "there"]) ?_
  repeat walk_at "ev"
  refine Clc.cl (c_has ok (n := n) (rm.to) h1 (by omega) fun H4 E4 => ?_)
  repeat walk_at "ev"
  refine Clc.cl (c_has ok (n := n) (rm.to) (E4 _ _ h2) (by omega) fun H5 E5 => ?_)
  repeat walk_at "ev"
  refine ⟨on2 (by walk_at "own") (by walk_at "own"), ?_⟩
  exact h (Lo.put (Lo.put σ "there" (.bool (inP qs x))) "here" (.bool (inP ps x))) _ R.put.put (by walk_at "lo") (by walk_at "lo") (by walk_at "lo") (by walk_at "lo") (by walk_at "lo") (E4.trans E5)
/-- behind -/
theorem mx4 {i : Nat} (rm : Rm A (n + 29)) (s4 : σ "rows" = some (.ref lo)) (s6 : σ "at" = some (.int i)) (p3 : H lo = some (.list (pl.map .int))) (h : Qn (Lo.put σ "behind" (.int (endOf pl (i + 1)))) H) :
    Ex1 (Cx.of G A (n + 29) rm (fnScope (top 24)) rfl q code a.mixed L) (sti (sti (st 24 3) 1) 0) σ H Qn Qr := by
  refine Ex1.assign (by walk_at "own") ?_
  refine Ev.ifexp ?_
  repeat walk_at "ev"
  rw [List.length_map]
  refine ⟨fun e2 => ?_, fun e2 => ?_⟩
  · have e2 : (i : Int) + 1 < pl.length := by simpa using e2
    have hq : pl[i + 1]? = some pl[i + 1] := List.getElem?_eq_getElem (by omega)
    generalize pl[i + 1] = y at hq
    repeat walk_at "ev"
    refine Do.item p3 (by omega) (by rw [show ((i : Int) + 1).toNat = i + 1 by omega, List.getElem?_map, hq]; rfl) ?_
    repeat walk_at "ev"
    have ez : endOf pl (i + 1) = y - 1 := by unfold endOf; rw [hq]
    rw [ez] at h
    exact h
  · have e2 : pl.length ≤ i + 1 := by have : (pl.length : Int) ≤ (i : Int) + 1 := by simpa using e2
                                      omega
    repeat walk_at "ev"
    have ez : endOf pl (i + 1) = 1114111 := by unfold endOf; rw [List.getElem?_eq_none e2]
    rw [ez] at h
    exact h
/-- found -/
theorem mx5 {x z : Int} {l : List Int} {S : Int → Prop} {r : List (Int × Int)} (rm : Rm A (n + 29)) (sf : σ "found" = some (.ref fo)) (s7 : σ "place" = some (.int x)) (s8 : σ "behind" = some (.int z)) (hf : H fo = some (.list ((rangesOf l).map pv))) (hinv : BInv r S l) (hmx : ∀ y ∈ l, y ≤ x) (hxz : x ≤ z) (hlen : l.length ≤ 200)
    (h : ∀ H', H' fo = some (.list ((rangesOf (stepB l (x, z))).map pv)) → ExtB fo H H' → Qn σ H') :
    Ex1 (Cx.of G A (n + 29) rm (fnScope (top 24)) rfl q code a.mixed L) (sti (sti (st 24 3) 1) 1) σ H Qn Qr := by
  refine Ex1.if_ ?_
  repeat walk_at "ev"
  intro c hcn
  have hf' := Ext.put (o := .list []) hcn _ _ hf
  refine Do.neD (n := n) (rm.to) (pL_rd hf') (pL_rd (l := []) (AH.put_self _ _ _)) (shaped_pL _) (shaped_pL _) ?_
  rw [eqv_pL_nil]
  have hE : ExtB fo H (AH.put H c (.list [])) := (Ext.put hcn).b
  generalize (AH.put H c (.list [])) = H8 at *
  have hev := hinv.bd.2.1
  refine ⟨_, rfl, fun e => ?_, fun e => ?_⟩
  · have e : rangesOf l = [] := by simpa using e
    have e := (rangesOf_nil hev).mp e
    subst e
    refine ⟨fun e => (by cases e), fun _ => ?_⟩
    repeat walk_at "ev"
    refine Cl.append hf' (by rw [List.length_map, rangesOf_len]; exact Nat.zero_le _) ?_
    refine ⟨rfl, Ex.nil (h _ ?_ (hE.trans .put))⟩
    rw [AH.put_self]
    show _ = some (AO.list ((rangesOf ([] ++ [x, z + 1])).map pv))
    rw [rangesOf_snoc (by rfl), Int.add_sub_cancel, List.map_append]; rfl
  · have e : rangesOf l ≠ [] := by simpa using e
    have e : l ≠ [] := fun q => by subst q; exact e rfl
    cases hinv with
    | nil hn => exact absurd rfl e
    | @snoc g x1 y1 Sg hg hl1 hxy he' hr =>
      have ge := hg.2.1
      have ymx := hmx y1 (by simp)
      have el : g ++ [x1, y1] = (g ++ [x1]) ++ [y1] := by simp
      rw [rangesOf_snoc ge, List.map_append] at hf'
      change H8 fo = some (.list ((rangesOf g).map pv ++ [.tup [.int x1, .int (y1 - 1)]])) at hf'
      rw [el, stepB_snoc] at h
      repeat walk_at "ev"
      refine ⟨fun e => ?_, fun e => ?_⟩
      · have e : y1 - 1 + 1 = x := by simpa using e
        rw [if_pos (by omega), if_pos (by omega)] at h
        refine Ex.cons ?_
        refine Ex1.setitem ?_
        repeat walk_at "ev"
        refine Si.last hf' ?_
        refine Ex.nil (h _ ?_ (hE.trans .put))
        rw [AH.put_self]
        show _ = some (AO.list ((rangesOf ((g ++ [x1]) ++ [z + 1])).map pv))
        rw [show (g ++ [x1]) ++ [z + 1] = g ++ [x1, z + 1] by simp, rangesOf_snoc ge, Int.add_sub_cancel, List.map_append]; rfl
      · have e : ¬ (y1 - 1 + 1 = x) := by simpa using e
        rw [if_neg (by show ¬ x ≤ y1; omega)] at h
        repeat walk_at "ev"
        refine Cl.append hf' ?_ ?_
        · rw [List.length_append] at hlen ⊢
          rw [List.length_map, rangesOf_len]
          simp at hlen ⊢
          omega
        refine ⟨rfl, Ex.nil (h _ ?_ (hE.trans .put))⟩
        rw [AH.put_self]
        show _ = some (AO.list ((rangesOf (((g ++ [x1]) ++ [y1]) ++ [x, z + 1])).map pv))
        rw [← el, rangesOf_snoc (by rw [List.length_append]; simp; omega), rangesOf_snoc ge, Int.add_sub_cancel, List.map_append, List.map_append]; rfl
/-- the test of the way -/
theorem mx6 {p1 p2 : Bool} (rm : Rm A (n + 29)) (s3 : σ "way" = some (.int way)) (hw : way < 4) (w8 : σ "here" = some (.bool p1)) (w9 : σ "there" = some (.bool p2))
    (h : ∀ H6, Ext H H6 → (wayOf way p1 p2 = true → Ex (Cx.of G A (n + 29) rm (fnScope (top 24)) rfl q code a.mixed L) (whBody (sti (st 24 3) 1)) σ H6 Qn Qr) ∧ (wayOf way p1 p2 = false → Qn σ H6)) :
    Ex1 (Cx.of G A (n + 29) rm (fnScope (top 24)) rfl q code a.mixed L) (sti (st 24 3) 1) σ H Qn Qr := by
  refine Ex1.if_ ?_
  refine Et.val ?_
  refine Ev.sub ?_
  refine Ev.list ?_
  refine Es.cons ?_
  refine Ev.orB (fun Q h => Ev.local (by kernel_rfl) w8 h) (fun Q h => Ev.local (by kernel_rfl) w9 h) ?_
  refine Es.cons ?_
  refine Ev.andB (fun Q h => Ev.local (by kernel_rfl) w8 h) (fun Q h => Ev.local (by kernel_rfl) w9 h) ?_
  refine Es.cons ?_
  refine Ev.andB (fun Q h => Ev.local (by kernel_rfl) w8 h) (fun Q h => Ev.not (Ev.local (by kernel_rfl) w9 ⟨_, rfl, h⟩)) ?_
  refine Es.cons ?_
  refine Ev.not (Ev.local (by kernel_rfl) w8 ⟨_, rfl, ?_⟩)
  refine Es.nil ?_
  refine ⟨by simp, fun b hb => ?_⟩
  repeat walk_at "ev"
  refine Do.item (r := .bool (wayOf way p1 p2)) (AH.put_self _ _ _) (by omega) ?_ ?_
  · rw [Int.toNat_natCast]
    rcases (by omega : way = 0 ∨ way = 1 ∨ way = 2 ∨ way = 3) with rfl | rfl | rfl | rfl <;> rfl
  obtain ⟨g1, g2⟩ := h _ (Ext.put hb)
  exact ⟨_, rfl, g1, fun e => Ex.nil (g2 e)⟩
/-- a turn -/
theorem mx7 {H3 : AH} {l : List Int} {i : Nat} {x : Int} (rm : Rm A (n + 29)) (h1 : H3 nr = some (.list (ps.map pv))) (h2 : H3 fr = some (.list (qs.map pv))) (hz : ps.length + qs.length ≤ 31) (hw : way < 4) (P : XPl (ps ++ qs) pl) (p3 : H3 lo = some (.list (pl.map .int))) (nn1 : nr ≠ fo) (nn2 : fr ≠ fo) (nn3 : lo ≠ fo) (hpl : pl.length ≤ 63) (hx : pl[i]? = some x)
    (R : XSt nr fr lo fo way ps qs pl H3 i σ H l) : Ex (Cx.of G A (n + 29) rm (fnScope (top 24)) rfl q code a.mixed L) (whBody (st 24 3)) (Lo.put (Lo.put σ "at" (.int i)) "place" (.int x)) H (fun σ' H' => XLoop nr fr lo fo way ps qs pl H3 (i + 1) σ' H') Qr := by
  obtain ⟨xe, exi⟩ := pl_end P.srt (fun x hx => ((P.mem x).mp hx).2) hx
  have x0 : 0 ≤ x := P.nn x (List.mem_of_getElem? hx)
  have hc : ∀ j, x ≤ j → j ≤ endOf pl (i + 1) → wayOf way (inP ps j) (inP qs j) = wayOf way (inP ps x) (inP qs x) := fun j h1 h2 => by
    rw [EndQ.const P.srt P.mem (ps := ps) (fun p hp => ⟨.inr ⟨p, List.mem_append_left _ hp, .inl rfl⟩, .inr ⟨p, List.mem_append_left _ hp, .inr rfl⟩⟩) hx h1 h2,
      EndQ.const P.srt P.mem (ps := qs) (fun p hp => ⟨.inr ⟨p, List.mem_append_right _ hp, .inl rfl⟩, .inr ⟨p, List.mem_append_right _ hp, .inr rfl⟩⟩) hx h1 h2]
  have hi : i < pl.length := (List.getElem?_eq_some_iff.mp hx).1
  have hmx := R.hX.mx
  rw [exi] at hmx
  have hlen := R.hX.len
  have s4 := R.v4
  refine Ex.cons (mx3 ok rm R.R.put.put (by walk_at "lo") (Lo.put_self _ _ _) (by walk_at "lo") (R.hE _ _ nn1 h1) (R.hE _ _ nn2 h2) hz fun σ5 H5 R5 r4 r7 r6 r8 r9 E5 => ?_)
  refine Ex.cons (mx6 ok rm R5.v3 hw r8 r9 fun H6 E6 => ⟨fun e => ?_, fun e => ?_⟩)
  · refine Ex.cons (mx4 ok rm r4 r6 (E6 _ _ (E5 _ _ (R.hE _ _ nn3 p3))) ?_)
    refine Ex.cons (mx5 ok rm R5.put.v5 (by walk_at "lo") (Lo.put_self _ _ _) (E6 _ _ (E5 _ _ R.hf)) R.hX.inv (fun y hy => by have := hmx y hy; omega) xe (by omega) fun H7 g7 E7 => ?_)
    exact Ex.nil (Ex.nil ⟨_, R5.put, by walk_at "lo", g7, (R.hE.trans (E5.trans E6).b).trans E7, R.hX.step P.srt hx x0 exi xe hc e⟩)
  · exact Ex.nil ⟨l, R5, r4, E6 _ _ (E5 _ _ R.hf), R.hE.trans (E5.trans E6).b, R.hX.skip hx exi xe hc e⟩
theorem mx8 (rm : Rm A (n + 29)) (h1 : H nr = some (.list (ps.map pv))) (h2 : H fr = some (.list (qs.map pv))) (hz : ps.length + qs.length ≤ 31) (hw : way < 4) (P : XPl (ps ++ qs) pl) (p3 : H lo = some (.list (pl.map .int))) (nn1 : nr ≠ fo) (nn2 : fr ≠ fo) (nn3 : lo ≠ fo) (hpl : pl.length ≤ 63)
    (R : XL nr fr way fo σ) (s4 : σ "rows" = some (.ref lo)) (hf : H fo = some (.list [])) (h : ∀ σ' H', XLoop nr fr lo fo way ps qs pl H pl.length σ' H' → Qn σ' H') : X1 (Cx.of G A (n + 29) rm (fnScope (top 24)) rfl q code a.mixed L) (st 24 3) σ H Qn Qr := by
  refine ⟨?_⟩
  refine enum_loop (lo := lo) (pl := pl) (XLoop nr fr lo fo way ps qs pl H) (fun Q h => ?_) p3 (by walk_at "own") (by walk_at "own") ⟨[], R, s4, hf, fun _ _ _ e => e, XI.zero P.z0⟩ (fun i σ' H' hh => ?_) (fun i x σ' H' hx hh => ?_) h
  · repeat walk_at "ev"
    exact Cl.enum p3 h
  · obtain ⟨l, s⟩ := hh
    exact s.hE _ _ nn3 p3
  · obtain ⟨l, s⟩ := hh
    exact mx7 ok rm h1 h2 hz hw P p3 nn1 nn2 nn3 hpl hx s
end
section
variable {G : Gl} {a : Ad} (ok : Ok G a) {A : Around} {H : AH} {Q : V → AH → Prop} {n : Nat}
include ok
set_option maxHeartbeats 1000000 in
theorem c_mixed {nr fr : Addr} {ps qs : List (Int × Int)} {way : Nat} (rm : Rm A (n + 30)) (h1 : H nr = some (.list (ps.map pv))) (h2 : H fr = some (.list (qs.map pv))) (hz : ps.length + qs.length ≤ 31) (hw : way < 4)
    (hp : ∀ p ∈ ps, 0 ≤ p.1 ∧ p.1 ≤ p.2) (hq : ∀ p ∈ qs, 0 ≤ p.1 ∧ p.1 ≤ p.2)
    (h : ∀ b l H', Bd l (fun k => (0 ≤ k ∧ k ≤ 1114111) ∧ wayOf way (inP ps k) (inP qs k) = true) → l.length ≤ 2 * (2 * (ps.length + qs.length) + 1) → H b = none → Ext H H' → H' b = some (.list ((rangesOf l).map pv)) → Q (.ref b) H') :
    Clc G A (.ref a.mixed) [.ref nr, .ref fr, .int way] H Q := by
  refine Clc.enter rm ok.mixed rfl (by kernel_rfl) (by kernel_rfl) (by kernel_rfl) (by decide) fun env q code L => ?_
  refine Ex.consX (mx0 ok (rm.deeper env) fun σ1 H1 en fo R1 s1 E1 hen hfo nef k1 g1 => ?_)
  refine Ex.consX (mx1 ok (rm.deeper env) R1 s1 k1 (E1 _ _ h1) (E1 _ _ h2) hz fun σ2 H2 kvs R2 s2 E2 k2 hk hl => ?_)
  rw [List.length_append] at hl
  have nne : ∀ {z o}, H z = some o → z ≠ en := fun e q => by subst q; rw [hen] at e; cases e
  have nnf : ∀ {z o}, H z = some o → z ≠ fo := fun e q => by subst q; rw [hfo] at e; cases e
  have E0 : Ext H H2 := fun z o e => E2 _ _ (nne e) (E1 _ _ e)
  have g2 := E2 _ _ nef.symm g1
  refine Ex.consX (mx2 ok (rm.deeper env) s2 k2 hk (by omega) (fun p hpq => (List.mem_append.mp hpq).elim (hp p) (hq p)) fun pl lo H3 hpl P E3 hlo p3 => ?_)
  have E03 := E0.trans E3
  refine Ex.consX (mx8 ok (rm.deeper env) (E03 _ _ h1) (E03 _ _ h2) hz hw P p3 (nnf h1) (nnf h2) (fun q => by subst q; rw [g2] at hlo; cases hlo) (by omega) R2.put (Lo.put_self _ _ _) (E3 _ _ g2) fun σ' H' hh => ?_)
  obtain ⟨l, S⟩ := hh
  have v5 := S.R.v5
  have bd := S.hX.inv.bd
  have hl' := S.hX.len
  have ze : endOf pl pl.length = 1114111 := by unfold endOf; rw [List.getElem?_eq_none (Nat.le_refl _)]
  rw [ze] at bd
  repeat walk_at "ev"
  exact h fo l H' bd (by omega) hfo (fun b o' e' => S.hE _ _ (nnf e') (E03 _ _ e')) S.hf
end
/-! ## plain: pairs and bounds -/
theorem rangesOf_get {l : List Int} {j : Nat} (h : j < l.length / 2) : ∃ x y, l[2 * j]? = some x ∧ l[2 * j + 1]? = some y ∧ (rangesOf l)[j]? = some (x, y - 1) := by
  have h1 : 2 * j < l.length := by omega
  have h2 : 2 * j + 1 < l.length := by omega
  refine ⟨l[2 * j], l[2 * j + 1], List.getElem?_eq_getElem h1, List.getElem?_eq_getElem h2, ?_⟩
  unfold rangesOf
  rw [List.getElem?_map, List.getElem?_range h]
  simp [List.getD_eq_getElem?_getD, List.getElem?_eq_getElem h1, List.getElem?_eq_getElem h2]
theorem rangesOf_at {l : List Int} {p : Int × Int} (h : p ∈ rangesOf l) : ∃ j x y, j < l.length / 2 ∧ l[2 * j]? = some x ∧ l[2 * j + 1]? = some y ∧ p = (x, y - 1) := by
  obtain ⟨j, hj⟩ := List.mem_iff_getElem?.mp h
  have hl := (List.getElem?_eq_some_iff.mp hj).1
  rw [rangesOf_len] at hl
  obtain ⟨x, y, a, b, c⟩ := rangesOf_get hl
  rw [hj] at c
  exact ⟨j, x, y, hl, a, b, Option.some.inj c⟩
theorem Bd.mem {l S} (h : Bd l S) (k : Int) : (∃ p ∈ rangesOf l, p.1 ≤ k ∧ k ≤ p.2) ↔ S k := by
  rw [← h.2.2 k]
  have cl := cnt_le_len l k
  constructor
  · rintro ⟨p, hp, a, b⟩
    obtain ⟨j, x, y, hj, hx, hy, rfl⟩ := rangesOf_at hp
    have h1 : x ≤ k ↔ 2 * j < cnt l k := sorted_count h.1 hx
    have h2 : y ≤ k ↔ 2 * j + 1 < cnt l k := sorted_count h.1 hy
    dsimp only at a b
    omega
  · intro q
    have ev := h.2.1
    obtain ⟨x, y, hx, hy, e⟩ := rangesOf_get (l := l) (j := cnt l k / 2) (by omega)
    have h1 : x ≤ k ↔ 2 * (cnt l k / 2) < cnt l k := sorted_count h.1 hx
    have h2 : y ≤ k ↔ 2 * (cnt l k / 2) + 1 < cnt l k := sorted_count h.1 hy
    refine ⟨_, List.mem_of_getElem? e, ?_⟩
    dsimp only
    omega
theorem Bd.inP {l S} (h : Bd l S) (k : Int) : inP (rangesOf l) k = true ↔ S k := by
  rw [← h.mem k]
  unfold Mine.inP
  simp only [List.any_eq_true, Bool.and_eq_true, decide_eq_true_eq]
theorem Bd.inP_cnt {l S} (h : Bd l S) (k : Int) : Mine.inP (rangesOf l) k = (cnt l k % 2 == 1) := by
  rw [Bool.eq_iff_iff, h.inP, ← h.2.2 k, beq_iff_eq]
theorem Bd.pairs {l S} (h : Bd l S) : ∀ p ∈ rangesOf l, p.1 ≤ p.2 ∧ S p.1 ∧ S p.2 := fun p hp => by
  have q : p.1 ≤ p.2 := by
    obtain ⟨j, x, y, hj, hx, hy, rfl⟩ := rangesOf_at hp
    obtain ⟨i1, e1⟩ := List.getElem?_eq_some_iff.mp hx
    obtain ⟨i2, e2⟩ := List.getElem?_eq_some_iff.mp hy
    have := List.pairwise_iff_getElem.mp h.1 _ _ i1 i2 (by omega)
    dsimp only
    omega
  exact ⟨q, (h.mem _).mp ⟨p, hp, Int.le_refl _, q⟩, (h.mem _).mp ⟨p, hp, q, Int.le_refl _⟩⟩
theorem Bd.bounds {l S} (h : Bd l S) (hS : ∀ k, S k → 0 ≤ k ∧ k ≤ 1114111) : ∀ z ∈ l, 0 ≤ z ∧ z ≤ 1114112 := fun z hz => by
  have e := (h.mem_iff z).mp hz
  by_cases q : S z
  · have := hS z q; omega
  · have : S (z - 1) := Classical.byContradiction fun n => q (e.mpr n)
    have := hS _ this; omega
theorem rangesOf_inj {l m S T} (h1 : Bd l S) (h2 : Bd m T) (e : rangesOf l = rangesOf m) : l = m := by
  refine h1.unique (h2.congr fun k => ?_)
  rw [← h1.mem k, ← h2.mem k, e]
/-- pairs that are apart -/
structure Sep (ps : List (Int × Int)) : Prop where
  le : ∀ p ∈ ps, p.1 ≤ p.2
  ap : ps.Pairwise fun p q => p.2 + 1 < q.1
theorem flat_bd : ∀ (n : Nat) (ps : List (Int × Int)), ps.length = n → Sep ps → ∃ m, Bd m (fun k => ∃ p ∈ ps, p.1 ≤ k ∧ k ≤ p.2) ∧ ps = rangesOf m ∧ m.length = 2 * n ∧ ∀ z ∈ m, ∃ p ∈ ps, z ≤ p.2 + 1
  | 0, ps, hn, _ => by
    obtain rfl := List.eq_nil_of_length_eq_zero hn
    exact ⟨[], Bd.nil.congr fun k => by simp, rfl, rfl, by simp⟩
  | n + 1, ps, hn, hs => by
    rcases List.eq_nil_or_concat ps with rfl | ⟨qs, p, rfl⟩
    · simp at hn
    · rw [List.concat_eq_append] at hn hs ⊢
      have ln : qs.length = n := by simpa using hn
      have ap := List.pairwise_append.mp hs.ap
      obtain ⟨m, b, e, hl, hm⟩ := flat_bd n qs ln ⟨fun p hp => hs.le p (List.mem_append_left _ hp), ap.1⟩
      have hp := hs.le p (by simp)
      refine ⟨m ++ [p.1, p.2 + 1], (b.snoc2 (fun z hz => ?_) (by omega)).congr fun k => ?_, ?_, ?_, fun z hz => ?_⟩
      · obtain ⟨q, hq, h1⟩ := hm z hz
        have := ap.2.2 q hq p (by simp)
        omega
      · constructor
        · rintro (⟨q, hq, h1⟩ | h1)
          · exact ⟨q, List.mem_append_left _ hq, h1⟩
          · exact ⟨p, by simp, by omega⟩
        · rintro ⟨q, hq, h1⟩
          rcases List.mem_append.mp hq with hq | hq
          · exact .inl ⟨q, hq, h1⟩
          · rw [List.mem_singleton] at hq; subst hq; exact .inr (by omega)
      · rw [rangesOf_snoc b.2.1, ← e, Int.add_sub_cancel]
      · rw [List.length_append, hl]; simp; omega
      · rcases List.mem_append.mp hz with hz | hz
        · obtain ⟨q, hq, h1⟩ := hm z hz
          exact ⟨q, List.mem_append_left _ hq, h1⟩
        · refine ⟨p, by simp, ?_⟩
          simp at hz
          rcases hz with rfl | rfl <;> omega
theorem rowsTo_all : ∀ (l : List (Int × S)) (e : Int), (l.map (·.1)).Pairwise (· < ·) → (∀ p ∈ l, p.1 ≤ e) → NoRep l →
    (∀ r ∈ rowsTo l e, r.1 ≤ r.2.1 ∧ (r.1, r.2.2) ∈ l ∧ r.2.1 ≤ e) ∧ (rowsTo l e).Pairwise fun r r' => r.2.1 < r'.1 ∧ (r.2.2 = r'.2.2 → r.2.1 + 1 < r'.1)
  | [], _, _, _, _ => ⟨fun r hr => (by cases hr), .nil⟩
  | [(k, v)], e, _, h, _ => by
    refine ⟨fun r hr => ?_, by simp [rowsTo]⟩
    simp only [rowsTo, List.mem_singleton] at hr
    subst hr
    exact ⟨h (k, v) (by simp), by simp, Int.le_refl _⟩
  | (k, v) :: (k', v') :: t, e, hs, h, hn => by
    have hs' : (k :: (((k', v') :: t).map (·.1))).Pairwise (· < ·) := hs
    obtain ⟨s1, s2⟩ := List.pairwise_cons.mp hs'
    obtain ⟨a, b⟩ := rowsTo_all ((k', v') :: t) e s2 (fun p hp => h p (List.mem_cons_of_mem _ hp)) hn.2
    have kk : k < k' := s1 k' (by simp)
    have ke : k' ≤ e := h (k', v') (by simp)
    refine ⟨fun r hr => ?_, List.pairwise_cons.mpr ⟨fun r hr => ?_, b⟩⟩
    · rcases List.mem_cons.mp hr with rfl | hr
      · exact ⟨by show k ≤ k' - 1; omega, by simp, by show k' - 1 ≤ e; omega⟩
      · obtain ⟨c1, c2, c3⟩ := a r hr
        exact ⟨c1, List.mem_cons_of_mem _ c2, c3⟩
    · obtain ⟨c1, c2, c3⟩ := a r hr
      dsimp only
      rcases List.mem_cons.mp c2 with c2 | c2
      · cases c2
        exact ⟨by omega, fun q => absurd q hn.1⟩
      · have s2' : (k' :: t.map (·.1)).Pairwise (· < ·) := s2
        have : k' < r.1 := (List.pairwise_cons.mp s2').1 r.1 (List.mem_map.mpr ⟨_, c2, rfl⟩)
        exact ⟨by omega, fun _ => by omega⟩
theorem RW.rows {l φ} (R : RW l φ) : (∀ r ∈ rowsOf l, r.1 ≤ r.2.1 ∧ 0 ≤ r.1 ∧ r.2.1 ≤ 1114111) ∧ ∀ s, Sep (partOf l s) := by
  obtain ⟨a, b⟩ := rowsTo_all l 1114111 R.srt R.mx R.nr
  rw [← rowsOf_to] at a b
  refine ⟨fun r hr => ?_, fun s => ⟨fun p hp => ?_, ?_⟩⟩
  · obtain ⟨a1, a2, a3⟩ := a r hr
    refine ⟨a1, ?_, a3⟩
    obtain ⟨v, t, e⟩ := R.hd
    subst e
    rcases List.mem_cons.mp a2 with a2 | a2
    · have : r.1 = 0 := congrArg Prod.fst a2
      omega
    · have s2 := R.srt
      have s2' : (0 :: t.map (·.1)).Pairwise (· < ·) := s2
      have : 0 < r.1 := (List.pairwise_cons.mp s2').1 r.1 (List.mem_map.mpr ⟨_, a2, rfl⟩)
      omega
  · obtain ⟨r, hr, rfl⟩ := List.mem_map.mp hp
    exact (a r (List.mem_filter.mp hr).1).1
  · unfold partOf
    rw [List.pairwise_map]
    have b' := b.filter fun r => decide (r.2.2 = s)
    refine List.Pairwise.imp_of_mem (fun {r r'} hr hr' h => ?_) b'
    have e1 := of_decide_eq_true (List.mem_filter.mp hr).2
    have e2 := of_decide_eq_true (List.mem_filter.mp hr').2
    exact h.2 (e1.trans e2.symm)
/-- the part of a value as bounds -/
theorem RW.part {l φ} (R : RW l φ) (s : S) : ∃ m, Bd m (fun k => ∃ r ∈ rowsOf l, r.2.2 = s ∧ r.1 ≤ k ∧ k ≤ r.2.1) ∧ partOf l s = rangesOf m ∧ m.length = 2 * (partOf l s).length := by
  obtain ⟨m, b, e, hl, _⟩ := flat_bd _ _ rfl (R.rows.2 s)
  refine ⟨m, b.congr fun k => ?_, e, hl⟩
  unfold partOf
  constructor
  · rintro ⟨p, hp, h1, h2⟩
    obtain ⟨r, hr, rfl⟩ := List.mem_map.mp hp
    obtain ⟨hr, he⟩ := List.mem_filter.mp hr
    exact ⟨r, hr, of_decide_eq_true he, h1, h2⟩
  · rintro ⟨r, hr, he, h1, h2⟩
    exact ⟨(r.1, r.2.1), List.mem_map.mpr ⟨r, List.mem_filter.mpr ⟨hr, decide_eq_true he⟩, rfl⟩, h1, h2⟩
/-- what the map says between two starts -/
theorem RW.at {l φ} (R : RW l φ) {r : Int × Int × S} (hr : r ∈ rowsOf l) {k : Int} (h1 : r.1 ≤ k) (h2 : k ≤ r.2.1) : φ k = r.2.2 := by
  have hb := R.rows.1 r hr
  obtain ⟨i, hi⟩ := List.mem_iff_getElem?.mp hr
  rw [rowsOf_get] at hi
  obtain ⟨p, hp, e⟩ := Option.map_eq_some_iff.mp hi
  subst e
  dsimp only at h1 h2 hb ⊢
  have kp : (l.map (·.1))[i]? = some p.1 := by rw [List.getElem?_map, hp]; rfl
  have c1 : p.1 ≤ k ↔ i < cnt (l.map (·.1)) k := sorted_count R.srt kp
  have cl := cnt_le_len (l.map (·.1)) k
  rw [List.length_map] at cl
  have c2 : cnt (l.map (·.1)) k ≤ i + 1 := by
    cases q : l[i + 1]? with
    | none => have := List.getElem?_eq_none_iff.mp q; omega
    | some z =>
      rw [q] at h2
      have kz : (l.map (·.1))[i + 1]? = some z.1 := by rw [List.getElem?_map, q]; rfl
      have : z.1 ≤ k ↔ i + 1 < cnt (l.map (·.1)) k := sorted_count R.srt kz
      simp at h2
      omega
  have e : cnt (l.map (·.1)) k = i + 1 := by omega
  have sem := R.sem k (by omega) (by omega)
  have il := (List.getElem?_eq_some_iff.mp hp).1
  rw [look_cnt R.srt, e, getLast_take (by omega) (by omega), Nat.add_sub_cancel, hp] at sem
  exact (Option.some.inj sem).symm
theorem cnt_step {l : List Int} (h : l.Pairwise (· < ·)) (k : Int) : cnt l k = cnt l (k - 1) + if k ∈ l then 1 else 0 := by
  induction l with
  | nil => rfl
  | cons x t ih =>
    obtain ⟨a, b⟩ := List.pairwise_cons.mp h
    rw [cnt_cons, cnt_cons, ih b]
    by_cases q : k = x
    · subst q
      have : k ∉ t := fun hm => Int.lt_irrefl _ (a k hm)
      simp [this]
      omega
    · have : k ∈ x :: t ↔ k ∈ t := by simp [q]
      simp only [this]
      split <;> split <;> split <;> omega
theorem NoRep.ne : ∀ {l : List (Int × S)} {i : Nat} {p q : Int × S}, NoRep l → l[i]? = some p → l[i + 1]? = some q → p.2 ≠ q.2
  | [], _, _, _, _, h, _ => by simp at h
  | [_], i, _, _, _, _, h => by simp at h
  | _ :: _ :: _, 0, _, _, n, h1, h2 => by
    simp at h1 h2; subst h1 h2; exact n.1
  | _ :: y :: t, i + 1, p, q, n, h1, h2 => NoRep.ne (l := y :: t) (i := i) n.2 (by simpa using h1) (by simpa using h2)
theorem RW.key {l φ} (R : RW l φ) (k : Int) : k ∈ l.map (·.1) ↔ k = 0 ∨ (0 < k ∧ k ≤ 1114111 ∧ φ k ≠ φ (k - 1)) := by
  obtain ⟨v, t, e⟩ := R.hd
  have h0 : (0 : Int) ∈ l.map (·.1) := by rw [e]; simp
  have nn : ∀ z ∈ l.map (·.1), 0 ≤ z := fun z hz => by
    have s2 := R.srt
    rw [e, List.map_cons] at s2 hz
    rcases List.mem_cons.mp hz with q | q
    · rw [q]; exact Int.le_refl _
    · exact Int.le_of_lt ((List.pairwise_cons.mp s2).1 z q)
  by_cases q0 : k = 0
  · subst q0; exact ⟨fun _ => .inl rfl, fun _ => h0⟩
  by_cases q1 : 0 < k ∧ k ≤ 1114111
  · have m1 := R.sem k (by omega) q1.2
    have m2 := R.sem (k - 1) (by omega) (by omega)
    rw [look_cnt R.srt] at m1 m2
    have cs := cnt_step R.srt k
    have cl := cnt_le_len (l.map (·.1)) k
    rw [List.length_map] at cl
    have c0 : 0 < cnt (l.map (·.1)) (k - 1) := by
      have k0 : (l.map (·.1))[0]? = some 0 := by rw [e]; rfl
      have := (sorted_count (k := k - 1) R.srt k0).mp (by omega)
      exact this
    constructor
    · intro hk
      refine .inr ⟨q1.1, q1.2, fun ee => ?_⟩
      rw [if_pos hk] at cs
      rw [cs, getLast_take (by omega) (by omega)] at m1
      rw [getLast_take c0 (by omega)] at m2
      obtain ⟨p, hp, e1⟩ := Option.map_eq_some_iff.mp m2
      obtain ⟨p', hp', e2⟩ := Option.map_eq_some_iff.mp m1
      refine R.nr.ne hp ?_ (e1.trans (ee.symm.trans e2.symm))
      rw [show cnt (l.map (·.1)) (k - 1) - 1 + 1 = cnt (l.map (·.1)) (k - 1) + 1 - 1 by omega]; exact hp'
    · rintro (h | ⟨_, _, h⟩)
      · exact absurd h q0
      · refine Classical.byContradiction fun hk => h ?_
        rw [if_neg hk, Nat.add_zero] at cs
        rw [cs, m2] at m1
        exact (Option.some.inj m1).symm
  · constructor
    · intro hk
      have := nn k hk
      obtain ⟨p, hp, rfl⟩ := List.mem_map.mp hk
      have := R.mx p hp
      exact absurd ⟨by omega, by omega⟩ q1
    · rintro (h | ⟨a, b, _⟩)
      · exact absurd h q0
      · exact absurd ⟨a, b⟩ q1
theorem RW.unique {l m φ} (R : RW l φ) (R' : RW m φ) : l = m := by
  have key : ∀ {l}, RW l φ → l = (l.map (·.1)).map fun k => (k, φ k) := fun {l} R => by
    rw [List.map_map]
    refine (List.map_id l).symm.trans (List.map_congr_left fun p hp => ?_)
    obtain ⟨i, hi⟩ := List.mem_iff_getElem?.mp hp
    have hr : (p.1, ((l[i + 1]?).map fun q => q.1 - 1).getD 1114111, p.2) ∈ rowsOf l := by
      refine List.mem_of_getElem? (i := i) ?_
      rw [rowsOf_get, hi]; rfl
    have := R.at hr (Int.le_refl _) (R.rows.1 _ hr).1
    show p = (p.1, φ p.1)
    rw [this]
  have e : l.map (·.1) = m.map (·.1) := sorted_ext R.srt R'.srt fun k => by rw [R.key k, R'.key k]
  rw [key R, key R', e]
/-! ## equality of data -/
theorem eqv_pL : ∀ l m : List (Int × Int), PyData.eqv (pL l) (pL m) = decide (l = m) := by
  have key : ∀ l m : List (Int × Int), PyData.eqvAll (l.map pD) (m.map pD) = decide (l = m) := by
    intro l
    induction l with
    | nil => intro m; cases m <;> simp [PyData.eqvAll]
    | cons x t ih =>
      intro m
      cases m with
      | nil => simp [PyData.eqvAll]
      | cons y u =>
        obtain ⟨x1, x2⟩ := x
        obtain ⟨y1, y2⟩ := y
        rw [List.map_cons, List.map_cons, PyData.eqvAll, ih u, pD, pD, PyData.eqv, PyData.eqvAll, PyData.eqvAll, PyData.eqvAll, PyData.eqv, PyData.eqv]
        rw [Bool.eq_iff_iff]
        simp
  intro l m
  unfold pL
  rw [PyData.eqv, key]
theorem find_at {α : Type} {p : α → Bool} : ∀ {l : List α} {n : Nat}, (∀ j x, l[j]? = some x → (p x = true ↔ n ≤ j)) → l.find? p = l[n]?
  | [], _, _ => by simp
  | x :: t, 0, h => by
    have := (h 0 x rfl).mpr (Nat.le_refl _)
    simp [this]
  | x :: t, n + 1, h => by
    have h0 : p x = false := by
      cases q : p x with
      | false => rfl
      | true => have := (h 0 x rfl).mp q; omega
    rw [List.find?_cons, h0]
    have := find_at (l := t) (n := n) fun j y hy => by
      rw [h (j + 1) y (by simpa using hy)]; omega
    rw [this]; simp
noncomputable def laters (l : List Int) (k : Int) : List Int := ((rangesOf l).filter fun p => decide (k ≤ p.2)).map fun p => if k > p.1 then k else p.1
theorem firstAt_eq {l : List Int} {S} (h : Bd l S) (k : Int) : firstAt l k = match (laters l k)[0]? with | some v => .int v | none => .none := by
  have cl := cnt_le_len l k
  have ev := h.2.1
  have e : (laters l k)[0]? = ((rangesOf l)[cnt l k / 2]?).map fun p => if k > p.1 then k else p.1 := by
    unfold laters
    rw [List.getElem?_map]
    congr 1
    rw [← List.head?_eq_getElem?, List.head?_filter]
    refine find_at fun j p hp => ?_
    have hl := (List.getElem?_eq_some_iff.mp hp).1
    rw [rangesOf_len] at hl
    obtain ⟨x, y, hx, hy, e⟩ := rangesOf_get hl
    rw [hp] at e; cases e
    have : y ≤ k ↔ 2 * j + 1 < cnt l k := sorted_count h.1 hy
    rw [decide_eq_true_eq]
    dsimp only
    omega
  rw [e]
  unfold firstAt
  by_cases q : cnt l k % 2 = 1
  · rw [if_pos q]
    obtain ⟨x, y, hx, hy, e⟩ := rangesOf_get (l := l) (j := cnt l k / 2) (by omega)
    have h1 : x ≤ k ↔ 2 * (cnt l k / 2) < cnt l k := sorted_count h.1 hx
    rw [e]
    show _ = V.int (if k > x then k else x)
    split
    · rfl
    · congr 1; omega
  · rw [if_neg q]
    by_cases q2 : cnt l k < l.length
    · obtain ⟨x, y, hx, hy, e⟩ := rangesOf_get (l := l) (j := cnt l k / 2) (by omega)
      have h1 : x ≤ k ↔ 2 * (cnt l k / 2) < cnt l k := sorted_count h.1 hx
      rw [show 2 * (cnt l k / 2) = cnt l k by omega] at hx
      rw [e, hx]
      show _ = V.int (if k > x then k else x)
      rw [if_neg (by omega)]
    · rw [List.getElem?_eq_none (by omega), List.getElem?_eq_none (by rw [rangesOf_len]; omega)]
      rfl
theorem Cl.lenT {G : Gl} {A : Around} {H : AH} {Q : V → AH → Prop} {l : List V} (hz : l.length ≤ 1000) (h : Q (.int l.length) H) : Cl G A (.builtin "len") [.tup l] H Q := fun B s vs S R => by
  obtain ⟨u, rfl, x⟩ := R.one
  cases x with | tup e c d vr =>
  rename_i ws n
  have z := vr.length
  rw [Array.length_toList] at z
  refine PyProof.Rows.len_tuple (items := ws) ⟨_, e, c, _, d⟩ (by rw [z]; omega) ?_
  rw [z]
  exact PostV.mk' ((S.tok _).tok _) (.int _ _) h
/-! ## the deck apart from all else -/
structure Fs (H : AH) (D CL : Addr) (K : AH) : Prop where
  dk : ∃ cells mixed, Dk H D CL cells mixed
  eq : H.minus [D, CL] = K
theorem Fs.ext {H D CL K} (F : Fs H D CL K) : Ext K H := by rw [← F.eq]; exact AH.minus_ext
theorem Fs.here {H D CL K} (F : Fs H D CL K) : ∀ b ∈ [D, CL], ∃ o, H b = some o := fun b hb => by
  obtain ⟨_, _, h1, h2, _⟩ := F.dk
  simp at hb
  rcases hb with rfl | rfl
  · exact ⟨_, h1⟩
  · exact ⟨_, h2⟩
theorem Fs.grow {H H' D CL K} (F : Fs H D CL K) (e : Ext H H') : Fs H' D CL (H'.minus [D, CL]) ∧ Ext K (H'.minus [D, CL]) := by
  obtain ⟨cells, mixed, h1, h2, h3⟩ := F.dk
  refine ⟨⟨⟨cells, mixed, e _ _ h1, e _ _ h2, h3⟩, rfl⟩, ?_⟩
  rw [← F.eq]; exact (ExtL.minus e.l)
theorem Fs.put {H D CL K b o} (F : Fs H D CL K) (hb : H b = none) : Fs (AH.put H b o) D CL (AH.put K b o) ∧ K b = none := by
  have nb : b ∉ [D, CL] := fun h => by obtain ⟨o, e⟩ := F.here b h; rw [hb] at e; cases e
  obtain ⟨cells, mixed, h1, h2, h3⟩ := F.dk
  have e := F.eq
  refine ⟨⟨⟨cells, mixed, Ext.put hb _ _ h1, Ext.put hb _ _ h2, h3⟩, ?_⟩, ?_⟩
  · rw [← e]
    funext x
    unfold AH.minus AH.put
    by_cases q : x = b
    · subst q; rw [if_neg nb, if_pos rfl, if_pos rfl]
    · rw [if_neg q, if_neg q]
  · rw [← e]; unfold AH.minus; rw [if_neg nb]; exact hb
theorem Fs.call {G A f rs H D CL K} {Q : V → AH → Prop} (F : Fs H D CL K) (h : Clc G A f rs K fun r K' => ∀ H', Fs H' D CL K' → Q r H') : Clc G A f rs H Q := by
  refine Clc.frame F.here ?_
  rw [F.eq]
  intro B s vs S R
  refine codeAny_mono (h B s vs S R) fun r s' z => ?_
  rcases r with e | (v | _ | _ | _) <;> first | exact z.elim | skip
  obtain ⟨r, K', v', S', q⟩ := z
  refine ⟨r, K', v', S', fun hn => q _ ⟨?_, AH.over_minus hn⟩⟩
  obtain ⟨cells, mixed, h1, h2, h3⟩ := F.dk
  exact ⟨cells, mixed, by rw [AH.over_in (by simp)]; exact h1, by rw [AH.over_in (by simp)]; exact h2, h3⟩
section
variable {G : Gl} {a : Ad} (ok : Ok G a) {A : Around} {H : AH} {Q : V → AH → Prop} {n : Nat}
include ok
theorem Fs.draw {D CL K} {many : Int} (F : Fs H D CL K) (rm : Rm A (n + 9)) (hm : 0 < many) (h : ∀ (i : Int) H' K', 0 ≤ i → i < many → Fs H' D CL K' → Ext K K' → Q (.int i) H') : Clc G A (.ref a.draw) [.ref D, .int many] H Q := by
  obtain ⟨cells, mixed, d⟩ := F.dk
  refine c_draw ok rm d hm fun i H' cells' mixed' h0 h1 d' e => ?_
  exact h i H' _ h0 h1 ⟨⟨cells', mixed', d'⟩, rfl⟩ (by rw [← F.eq]; exact e.minus)
theorem CSet.gm {x : Addr} {l : List Int} {name : Str} {m : Addr} (cs : CSet a H x l) (hn : name ≠ "bounds")
    (hm : List.lookup name [((Str.ofString "has" : Str), a.cs 2), ("ranges", a.cs 3), ("size", a.cs 4), ("union", a.cs 5), ("both", a.cs 6), ("without", a.cs 7), ("opposite", a.cs 8), ("add", a.cs 9), ("equals", a.cs 10), ("first_at", a.cs 11)] = some m) : Gm G A (.ref x) name H (.ref m) [.ref x] H := by
  obtain ⟨d, b, h1, h2, _⟩ := cs
  exact Gm.inst ok.CS h1 h2 (if_neg hn) hm
end
section
variable {C : Cx} {σ : Lo} {H : AH}
/-- a comprehension whose items are new data -/
theorem Co.fresh {target iter elt : Expr} {scope : Scope} {ok : CompOk C scope} {R : List V → AH → Prop} (ds : List PyData)
    (h : Ei C target iter σ H fun rs Hc H₁ => rs.length = ds.length ∧ ds.length ≤ 1000 ∧ (∀ H', Ext H₁ H' → Hc H') ∧
      (∀ (L : Addr) (i : Nat) (x : V) (d : PyData) (H' : AH), rs[i]? = some x → ds[i]? = some d → Ext H₁ H' → ∃ bs, tgBinds target x = some bs ∧ (∀ b ∈ bs, scope.names.lookup b.1 = some .local) ∧
        Ev (C.comp scope ok L) elt ((compLo C scope σ).puts bs) H' fun r H3 => Ext H' H3 ∧ RD H3 r d) ∧
      (∀ out H', Ext H₁ H' → RDs H' out ds → R out H')) : Co C target iter elt [] scope ok σ H R := fun B s S => by
  refine wpAny_mono (h B s S) (fun x s₁ h₁ => wpAny_mono h₁ (fun itv s₂ z => ?_) fun _ _ x => x) fun _ _ x => x
  obtain ⟨it, own, rs, Hc, P, H₁, e, It, p0, hf, S2, hl, hz, hc, st, fin⟩ := z
  refine ⟨it, own, rs, Hc, P, H₁, e, It, p0, hf, S2, fun i out H' => Ext H₁ H' ∧ RDs H' out (ds.take i), ⟨Ext.refl _, by rw [List.take_zero]; exact .nil⟩, ?_, ?_, ?_⟩
  · rintro i out H' ⟨e1, e2⟩
    refine ⟨hc H' e1, ?_⟩
    have : ∀ {rs ds}, RDs H' rs ds → rs.length = ds.length := by
      intro rs
      induction rs with
      | nil => intro ds h; cases h; rfl
      | cons r t ih => intro ds h; cases h with | cons a b => exact congrArg Nat.succ (ih b)
    rw [this e2, List.length_take]; omega
  · rintro L i x out H' hx ⟨e1, e2⟩
    have hi : i < ds.length := by rw [← hl]; exact (List.getElem?_eq_some_iff.mp hx).1
    have hd : ds[i]? = some ds[i] := List.getElem?_eq_getElem hi
    generalize ds[i] = d at hd
    obtain ⟨bs, b1, b2, b3⟩ := st L i x d H' hx hd e1
    refine ⟨bs, b1, b2, ?_⟩
    show _ ∧ _
    refine ⟨fun _ => b3.mono ?_, fun e => (by cases e)⟩
    rintro r H3 ⟨e3, rd⟩
    refine ⟨e1.trans e3, ?_⟩
    have : ∀ {rs ds}, RDs H3 rs ds → RDs H3 (rs ++ [r]) (ds ++ [d]) := by
      intro rs
      induction rs with
      | nil => intro ds h; cases h; exact .cons rd .nil
      | cons r t ih => intro ds h; cases h with | cons a b => exact .cons a (ih b)
    rw [List.take_add_one, hd]
    exact this (RDs.ext e3 e2)
  · rintro out H' ⟨e1, e2⟩
    rw [hl, List.take_of_length_le (Nat.le_refl _)] at e2
    exact fin out H' e1 e2
end
/-- data that can be compared -/
structure Lay (dp : Nat) (d : PyData) : Prop where
  lay : d.canLay0 = true
  dep : d.depth ≤ dp
theorem Lay.all {dp : Nat} : ∀ {l : List PyData}, (∀ d ∈ l, Lay dp d) → PyData.canLayAll0 l = true ∧ PyData.depthAll l ≤ dp
  | [], _ => ⟨rfl, Nat.zero_le _⟩
  | d :: l, h => by
    obtain ⟨a, b⟩ := Lay.all fun x hx => h x (List.mem_cons_of_mem _ hx)
    have n := h d List.mem_cons_self
    refine ⟨by simp only [PyData.canLayAll0, n.lay, a, Bool.and_true], ?_⟩
    simp only [PyData.depthAll]; exact Nat.max_le.mpr ⟨n.dep, b⟩
theorem Lay.list {dp : Nat} {l : List PyData} (h : ∀ d ∈ l, Lay dp d) : Lay (dp + 1) (.list l) := by
  obtain ⟨a, b⟩ := Lay.all h
  exact ⟨by simpa only [PyData.canLay0] using a, by simp only [PyData.depth]; omega⟩
theorem Lay.shaped {dp d} (h : Lay dp d) (hd : dp ≤ 64) : SeqAt.shaped d = true := by
  unfold SeqAt.shaped
  rw [h.lay, decide_eq_true (Nat.le_trans h.dep hd)]; rfl
theorem Lay.pL (l : List (Int × Int)) : Lay 2 (pL l) := Lay.list fun d hd => by
  obtain ⟨p, _, rfl⟩ := List.mem_map.mp hd
  exact ⟨rfl, Nat.le_refl _⟩
theorem Lay.refl {dp d} (h : Lay dp d) : PyData.eqv d d = true := SeqAt.eqv_refl d h.lay
theorem comp_lo1 {C scope} {σ : Lo} {x y : Str} {r v : V} (h : (relabel scope C.env).names.lookup x = some .cell) (ne : x ≠ y) (e : σ x = some r) : ((compLo C scope σ).puts [(y, v)]) x = some r :=
  (Lo.put_ne _ _ ne).trans (compLo_eq h e)
theorem comp_lo2 {C scope} {σ : Lo} {x y z : Str} {r v u : V} (h : (relabel scope C.env).names.lookup x = some .cell) (ne : x ≠ y) (ne' : x ≠ z) (e : σ x = some r) : ((compLo C scope σ).puts [(y, v), (z, u)]) x = some r :=
  (Lo.put_ne _ _ ne').trans ((Lo.put_ne _ _ ne).trans (compLo_eq h e))
section
local macro_rules | `(tactic| walk_at "ev") => `(tactic| with_reducible first
  | refine Ev.cell (x := Str.ofString "near") (by kernel_rfl) (by first | walk_at "lo" | exact comp_lo1 (by kernel_rfl) (by decide) (by assumption) | exact comp_lo2 (by kernel_rfl) (by decide) (by decide) (by assumption)) ?_
  | refine Ev.cell (x := Str.ofString "far") (by kernel_rfl) (by first | walk_at "lo" | exact comp_lo1 (by kernel_rfl) (by decide) (by assumption) | exact comp_lo2 (by kernel_rfl) (by decide) (by decide) (by assumption)) ?_
  | refine Ev.cell (x := Str.ofString "code") (by kernel_rfl) (by first | walk_at "lo" | exact comp_lo1 (by kernel_rfl) (by decide) (by assumption) | exact comp_lo2 (by kernel_rfl) (by decide) (by decide) (by assumption)) ?_)
theorem rev_mem {l : List Int} {S} (h : Bd l S) (k : Int) : (∃ p ∈ (rangesOf l).reverse, p.1 ≤ k ∧ k ≤ p.2) ↔ S k := by
  rw [← h.mem k]; simp only [List.mem_reverse]
theorem twice_mem {l : List Int} {S} (h : Bd l S) (k : Int) : (∃ p ∈ rangesOf l ++ (rangesOf l).take 1, p.1 ≤ k ∧ k ≤ p.2) ↔ S k := by
  rw [← h.mem k]
  constructor
  · rintro ⟨p, hp, e⟩
    rcases List.mem_append.mp hp with hp | hp
    · exact ⟨p, hp, e⟩
    · exact ⟨p, List.mem_of_mem_take hp, e⟩
  · rintro ⟨p, hp, e⟩
    exact ⟨p, List.mem_append_left _ hp, e⟩
theorem ways_eq {l m k1 k2 k3 k4 : List Int} {S T : Int → Prop} (bl : Bd l S) (bm : Bd m T) (hS : ∀ k, S k → 0 ≤ k ∧ k ≤ 1114111) (hT : ∀ k, T k → 0 ≤ k ∧ k ≤ 1114111) (q1 : Bd k1 fun k => S k ∨ T k) (q2 : Bd k2 fun k => S k ∧ T k)
    (q3 : Bd k3 fun k => S k ∧ ¬ T k) (q4 : Bd k4 fun k => (0 ≤ k ∧ k < 1114112) ∧ ¬ S k) {i : Nat} {j : List Int} {d : PyData} (hj : Bd j fun k => (0 ≤ k ∧ k ≤ 1114111) ∧ wayOf i (inP (rangesOf l) k) (inP (rangesOf m) k) = true)
    (hd : [pL (rangesOf k1), pL (rangesOf k2), pL (rangesOf k3), pL (rangesOf k4)][i]? = some d) : d = pL (rangesOf j) := by
  have e1 : ∀ k, inP (rangesOf l) k = true ↔ S k := fun k => bl.inP k
  have e2 : ∀ k, inP (rangesOf m) k = true ↔ T k := fun k => bm.inP k
  match i, hd with
  | 0, hd =>
    cases hd
    rw [q1.unique (hj.congr fun k => ?_)]
    simp only [wayOf, Bool.or_eq_true, e1, e2]
    exact ⟨fun h => h.2, fun h => ⟨h.elim (hS k) (hT k), h⟩⟩
  | 1, hd =>
    cases hd
    rw [q2.unique (hj.congr fun k => ?_)]
    simp only [wayOf, Bool.and_eq_true, e1, e2]
    exact ⟨fun h => h.2, fun h => ⟨hS k h.1, h⟩⟩
  | 2, hd =>
    cases hd
    rw [q3.unique (hj.congr fun k => ?_)]
    simp only [wayOf, Bool.and_eq_true, Bool.not_eq_true', ← Bool.not_eq_true, e1, e2]
    exact ⟨fun h => h.2, fun h => ⟨hS k h.1, h⟩⟩
  | 3, hd =>
    cases hd
    rw [q4.unique (hj.congr fun k => ?_)]
    simp only [wayOf, Bool.not_eq_true', ← Bool.not_eq_true, e1]
    exact ⟨fun h => ⟨⟨h.1.1, by omega⟩, h.2⟩, fun h => ⟨⟨h.1.1, by omega⟩, h.2⟩⟩
  | i + 4, hd => simp at hd
/-- the state of _law_sets_right -/
structure RS (a : Ad) (σ : Lo) (H K : AH) (D CL nr fr x1 x2 : Addr) (l m : List Int) : Prop where
  F : Fs H D CL K
  s1 : σ "deck" = some (.ref D)
  s2 : σ "near" = some (.ref nr)
  s3 : σ "far" = some (.ref fr)
  s4 : σ "one" = some (.ref x1)
  s5 : σ "two" = some (.ref x2)
  h1 : K nr = some (.list ((rangesOf l).map pv))
  h2 : K fr = some (.list ((rangesOf m).map pv))
  c1 : CSet a K x1 l
  c2 : CSet a K x2 m
theorem RS.ext {a σ H K H' K' D CL nr fr x1 x2 l m} (R : RS a σ H K D CL nr fr x1 x2 l m) (F : Fs H' D CL K') (e : Ext K K') : RS a σ H' K' D CL nr fr x1 x2 l m :=
  ⟨F, R.s1, R.s2, R.s3, R.s4, R.s5, e _ _ R.h1, e _ _ R.h2, R.c1.ext e, R.c2.ext e⟩
theorem RS.grow {a σ H K H' D CL nr fr x1 x2 l m} (R : RS a σ H K D CL nr fr x1 x2 l m) (e : Ext H H') : RS a σ H' (H'.minus [D, CL]) D CL nr fr x1 x2 l m :=
  R.ext (R.F.grow e).1 (R.F.grow e).2
theorem RS.lo {a σ σ' H K D CL nr fr x1 x2 l m} (R : RS a σ H K D CL nr fr x1 x2 l m) (e : ∀ y : Str, y ∈ [("deck" : Str), "near", "far", "one", "two"] → σ' y = σ y) : RS a σ' H K D CL nr fr x1 x2 l m :=
  ⟨R.F, (e _ (by simp)).trans R.s1, (e _ (by simp)).trans R.s2, (e _ (by simp)).trans R.s3, (e _ (by simp)).trans R.s4, (e _ (by simp)).trans R.s5, R.h1, R.h2, R.c1, R.c2⟩
theorem RS.set {a σ H K D CL nr fr x1 x2 l m} (R : RS a σ H K D CL nr fr x1 x2 l m) {x : Str} {r : V} (hx : x ∉ [("deck" : Str), "near", "far", "one", "two"]) : RS a (Lo.put σ x r) H K D CL nr fr x1 x2 l m :=
  R.lo fun y hy => Lo.put_ne _ _ fun e => hx (e ▸ hy)
section
variable {G : Gl} {a : Ad} (ok : Ok G a) {A : Around} {H K : AH} {σ : Lo} {Qn : Lo → AH → Prop} {Qr : V → AH → Prop} {n : Nat} {q : Str} {code : Value} {L D CL nr fr x1 x2 : Addr} {l m : List Int} {S T : Int → Prop}
include ok
theorem rt0 (rm : Rm A (n + 39)) (F : Fs H D CL K) (h1 : K nr = some (.list ((rangesOf l).map pv))) (h2 : K fr = some (.list ((rangesOf m).map pv))) (bl : Bd l S) (bm : Bd m T) (hz : l.length + m.length ≤ 60)
    (h : ∀ σ' H' K' x1 x2, RS a σ' H' K' D CL nr fr x1 x2 l m → Qn σ' H') :
    Ex1 (Cx.of G A (n + 39) rm (fnScope (top 25)) rfl q code a.right L) (st 25 0) (Lo.of (List.zip ["deck", "near", "far"] [.ref D, .ref nr, .ref fr])) H Qn Qr := by
  have ll := rangesOf_len l
  have lm := rangesOf_len m
  refine Ex1.assignTS (names := ["one", "two"]) ?_
  refine Ev.tuple ?_
  refine Es.cons ?_
  refine Ev.meth1 ?_
  repeat walk_at "ev"
  refine ⟨_, _, _, ok.of_ _ _, Fn.kp ok.cs1, ?_⟩
  refine Es.cons ?_
  refine Ev.slice ?_
  repeat walk_at "ev"
  refine ⟨nr, _, _, rfl, F.ext _ _ h1, by decide, pick_back, fun b1 hb1 => ?_⟩
  rw [← List.map_reverse]
  obtain ⟨F1, kb1⟩ := F.put (o := .list ((rangesOf l).reverse.map pv)) hb1
  repeat walk_at "ev"
  refine Clc.cl (F1.call (cs_of ok (n := n) (rm.to) (AH.put_self _ _ _) (by rw [List.length_reverse]; omega) fun x1 l1 K2 q1 _ c1 E2 _ H2 F2 => ?_))
  obtain rfl := bl.unique (q1.congr fun k => rev_mem bl k)
  replace E2 := (Ext.put kb1).trans E2
  clear F F1 q1 kb1 hb1
  refine Es.cons ?_
  refine Ev.meth1 ?_
  repeat walk_at "ev"
  refine ⟨_, _, _, ok.of_ _ _, Fn.kp ok.cs1, ?_⟩
  refine Es.cons ?_
  refine Ev.binop ?_
  walk_at "ev"
  refine Ev.slice ?_
  repeat walk_at "ev"
  refine ⟨fr, _, _, rfl, F2.ext _ _ (E2 _ _ h2), by decide, pick_upto (a := 1), fun b2 hb2 => ?_⟩
  rw [← List.map_take]
  obtain ⟨F3, kb2⟩ := F2.put (o := .list (((rangesOf m).take 1).map pv)) hb2
  refine Do.addL (F3.ext _ _ (Ext.put kb2 _ _ (E2 _ _ h2))) (AH.put_self _ _ _) (by rw [List.length_map]; omega) (by rw [List.length_map, List.length_take]; omega) fun b3 hb3 => ?_
  rw [← List.map_append]
  obtain ⟨F4, kb3⟩ := F3.put (o := .list ((rangesOf m ++ (rangesOf m).take 1).map pv)) hb3
  repeat walk_at "ev"
  refine Clc.cl (F4.call (cs_of ok (n := n) (rm.to) (AH.put_self _ _ _) (by rw [List.length_append, List.length_take]; omega) fun x2 l1 K5 q1 _ c2 E5 _ H5 F5 => ?_))
  obtain rfl := bm.unique (q1.congr fun k => twice_mem bm k)
  replace E5 := ((Ext.put kb2).trans (Ext.put kb3)).trans E5
  replace c1 := c1.ext E5
  replace E2 := E2.trans E5
  clear F2 F3 F4 q1 kb2 hb2 kb3 hb3 E5
  repeat walk_at "ev"
  refine ⟨on2 (by walk_at "own") (by walk_at "own"), ?_⟩
  show Qn (Lo.put (Lo.put (Lo.of (List.zip ["deck", "near", "far"] [.ref D, .ref nr, .ref fr])) "two" (.ref x2)) "one" (.ref x1)) _
  exact h _ _ _ x1 x2 ⟨F5, by walk_at "lo", by walk_at "lo", by walk_at "lo", by walk_at "lo", by walk_at "lo", E2 _ _ h1, E2 _ _ h2, c1, c2⟩
theorem rt1 (rm : Rm A (n + 39)) (R : RS a σ H K D CL nr fr x1 x2 l m) (bl : Bd l S) (bm : Bd m T) (hz : l.length + m.length ≤ 60)
    (h : ∀ σ' H' K' tl y1 y2 y3 y4 k1 k2 k3 k4, RS a σ' H' K' D CL nr fr x1 x2 l m → σ' "told" = some (.ref tl) → H' tl = some (.list [.ref y1, .ref y2, .ref y3, .ref y4]) → CSet a H' y1 k1 → CSet a H' y2 k2 → CSet a H' y3 k3 → CSet a H' y4 k4 →
      Bd k1 (fun k => S k ∨ T k) → Bd k2 (fun k => S k ∧ T k) → Bd k3 (fun k => S k ∧ ¬ T k) → Bd k4 (fun k => (0 ≤ k ∧ k < 1114112) ∧ ¬ S k) → k1.length ≤ 100 → k2.length ≤ 100 → k3.length ≤ 100 → k4.length ≤ 100 → Qn σ' H') :
    Ex1 (Cx.of G A (n + 39) rm (fnScope (top 25)) rfl q code a.right L) (st 25 1) σ H Qn Qr := by
  obtain ⟨F5, s1, s2, s3, s4, s5, h1, h2, c1, c2⟩ := id R
  refine Ex1.assign (by walk_at "own") ?_
  refine Ev.list ?_
  refine Es.cons ?_
  refine Ev.meth1 ?_
  repeat walk_at "ev"
  refine ⟨_, _, _, CSet.gm ok (c1.ext F5.ext) (by decide) rfl, ok.cs5.kp, ?_⟩
  repeat walk_at "ev"
  refine Clc.cl (F5.call (cs_union ok (n := n) (rm.to) c1 c2 bl bm (by omega) (by omega) fun y1 k1 K6 q1 z1 d1 E6 _ H6 F6 => ?_))
  replace c1 := c1.ext E6
  replace c2 := c2.ext E6
  clear F5
  refine Es.cons ?_
  refine Ev.meth1 ?_
  repeat walk_at "ev"
  refine ⟨_, _, _, CSet.gm ok (c1.ext F6.ext) (by decide) rfl, ok.cs6.kp, ?_⟩
  repeat walk_at "ev"
  refine Clc.cl (F6.call (cs_both ok (n := n) (rm.to) c1 c2 bl bm (by omega) (by omega) fun y2 k2 K7 q2 z2 d2 E7 _ H7 F7 => ?_))
  replace c1 := c1.ext E7
  replace c2 := c2.ext E7
  replace d1 := d1.ext E7
  replace E6 := E6.trans E7
  clear F6 E7
  refine Es.cons ?_
  refine Ev.meth1 ?_
  repeat walk_at "ev"
  refine ⟨_, _, _, CSet.gm ok (c1.ext F7.ext) (by decide) rfl, ok.cs7.kp, ?_⟩
  repeat walk_at "ev"
  refine Clc.cl (F7.call (cs_without ok (n := n) (rm.to) c1 c2 bl bm (by omega) (by omega) fun y3 k3 K8 q3 z3 d3 E8 _ H8 F8 => ?_))
  replace c1 := c1.ext E8
  replace c2 := c2.ext E8
  replace d1 := d1.ext E8
  replace d2 := d2.ext E8
  replace E6 := E6.trans E8
  clear F7 E8
  refine Es.cons ?_
  refine Ev.meth0 ?_
  repeat walk_at "ev"
  refine ⟨_, _, _, CSet.gm ok (c1.ext F8.ext) (by decide) rfl, ok.cs8.kp, ?_⟩
  refine Clc.cl (F8.call (cs_opposite ok (n := n) (rm.to) c1 bl (by omega) fun y4 k4 K9 q4 z4 d4 E9 _ H9 F9 => ?_))
  replace c1 := c1.ext E9
  replace c2 := c2.ext E9
  replace d1 := d1.ext E9
  replace d2 := d2.ext E9
  replace d3 := d3.ext E9
  replace E6 := E6.trans E9
  clear F8 E9
  refine Es.nil ?_
  refine ⟨by simp, fun tl htl => ?_⟩
  obtain ⟨F, ktl⟩ := F9.put (o := .list [.ref y1, .ref y2, .ref y3, .ref y4]) htl
  have e := (Ext.put (o := .list [.ref y1, .ref y2, .ref y3, .ref y4]) ktl).trans F.ext
  exact h _ _ _ tl y1 y2 y3 y4 k1 k2 k3 k4 ((R.ext F (E6.trans (Ext.put ktl))).set (by decide)) (Lo.put_self _ _ _) (AH.put_self _ _ _) (d1.ext e) (d2.ext e) (d3.ext e) (d4.ext e) q1 q2 q3 q4 (by omega) (by omega) (by omega) (by omega)
end
section
variable {G : Gl} {a : Ad} (ok : Ok G a) {A : Around} {H K : AH} {σ : Lo} {Qn : Lo → AH → Prop} {Qr : V → AH → Prop} {n : Nat} {q : Str} {code : Value} {L D CL nr fr x1 x2 : Addr} {l m : List Int} {S T : Int → Prop}
include ok
theorem rt2 (rm : Rm A (n + 39)) (R : RS a σ H K D CL nr fr x1 x2 l m) (bl : Bd l S) (bm : Bd m T) (hS : ∀ k, S k → 0 ≤ k ∧ k ≤ 1114111) (hT : ∀ k, T k → 0 ≤ k ∧ k ≤ 1114111) (hz : l.length + m.length ≤ 60)
    {tl y1 y2 y3 y4 : Addr} {k1 k2 k3 k4 : List Int} (s6 : σ "told" = some (.ref tl)) (ht : H tl = some (.list [.ref y1, .ref y2, .ref y3, .ref y4])) (d1 : CSet a H y1 k1) (d2 : CSet a H y2 k2) (d3 : CSet a H y3 k3) (d4 : CSet a H y4 k4)
    (q1 : Bd k1 fun k => S k ∨ T k) (q2 : Bd k2 fun k => S k ∧ T k) (q3 : Bd k3 fun k => S k ∧ ¬ T k) (q4 : Bd k4 fun k => (0 ≤ k ∧ k < 1114112) ∧ ¬ S k) (z1 : k1.length ≤ 100) (z2 : k2.length ≤ 100) (z3 : k3.length ≤ 100) (z4 : k4.length ≤ 100)
    (h : ∀ H' K', RS a σ H' K' D CL nr fr x1 x2 l m → Qn σ H') :
    Ex1 (Cx.of G A (n + 39) rm (fnScope (top 25)) rfl q code a.right L) (st 25 2) σ H Qn Qr := by
  have ll := rangesOf_len l
  have lm := rangesOf_len m
  obtain ⟨F, s1, s2, s3, s4, s5, h1, h2, c1, c2⟩ := id R
  have el : ∀ (i : Nat) (x : V) (d : PyData), [V.ref y1, .ref y2, .ref y3, .ref y4][i]? = some x → [pL (rangesOf k1), pL (rangesOf k2), pL (rangesOf k3), pL (rangesOf k4)][i]? = some d →
      ∃ y k, x = .ref y ∧ d = pL (rangesOf k) ∧ CSet a H y k ∧ k.length % 2 = 0 ∧ k.length ≤ 1000 := fun i x d hx hd =>
    match i, hx, hd with
    | 0, rfl, rfl => ⟨_, _, rfl, rfl, d1, q1.2.1, by omega⟩
    | 1, rfl, rfl => ⟨_, _, rfl, rfl, d2, q2.2.1, by omega⟩
    | 2, rfl, rfl => ⟨_, _, rfl, rfl, d3, q3.2.1, by omega⟩
    | 3, rfl, rfl => ⟨_, _, rfl, rfl, d4, q4.2.1, by omega⟩
    | _ + 4, hx, _ => by simp at hx
  have sh : SeqAt.shaped (.list [pL (rangesOf k1), pL (rangesOf k2), pL (rangesOf k3), pL (rangesOf k4)]) = true ∧ PyData.eqv (.list [pL (rangesOf k1), pL (rangesOf k2), pL (rangesOf k3), pL (rangesOf k4)]) (.list [pL (rangesOf k1), pL (rangesOf k2), pL (rangesOf k3), pL (rangesOf k4)]) = true := by
    have y : Lay 3 (.list [pL (rangesOf k1), pL (rangesOf k2), pL (rangesOf k3), pL (rangesOf k4)]) := Lay.list fun d hd => by
      simp only [List.mem_cons, List.not_mem_nil, or_false] at hd
      rcases hd with rfl | rfl | rfl | rfl <;> exact Lay.pL _
    exact ⟨y.shaped (by decide), y.refl⟩
  have mx : ∀ (i : Nat) (j : List Int) (d : PyData), Bd j (fun k => (0 ≤ k ∧ k ≤ 1114111) ∧ wayOf i (inP (rangesOf l) k) (inP (rangesOf m) k) = true) → [pL (rangesOf k1), pL (rangesOf k2), pL (rangesOf k3), pL (rangesOf k4)][i]? = some d → d = pL (rangesOf j) :=
    fun i j d hj hd => ways_eq bl bm hS hT q1 q2 q3 q4 hj hd
  have ed : [pL (rangesOf k1), pL (rangesOf k2), pL (rangesOf k3), pL (rangesOf k4)].length = 4 := rfl
  generalize [pL (rangesOf k1), pL (rangesOf k2), pL (rangesOf k3), pL (rangesOf k4)] = ds at el sh mx ed
  clear d1 d2 d3 d4 q1 q2 q3 q4 z1 z2 z3 z4
  refine Ex1.if_ ?_
  refine Et.compare ?_
  refine Ev.comp (CompOk.of (by kernel_rfl)) ?_
  refine Co.fresh ds ?_
  refine Ei.list ?_
  repeat walk_at "ev"
  refine ⟨tl, _, rfl, ht, ed.symm, by omega, fun H' e => e _ _ ht, ?_, ?_⟩
  · intro L i x d H' hx hd e
    obtain ⟨y, k, rfl, rfl, cs, ev, le⟩ := el i x d hx hd
    refine ⟨[("it", .ref y)], rfl, bl1 rfl, ?_⟩
    refine Ev.meth0 ?_
    repeat walk_at "ev"
    refine ⟨_, _, _, CSet.gm ok (cs.ext e) (by decide) rfl, ok.cs3.kp, ?_⟩
    refine Clc.cl (cs_ranges ok (n := n) (rm.to) (cs.ext e) ev le fun b H3 hb E hb' => ⟨E, pL_rd hb'⟩)
  intro out HB E1 R1 c hc
  replace R1 := RDs.ext (Ext.put (o := .list out) hc) R1
  replace E1 := E1.trans (Ext.put (o := .list out) hc)
  have hl1 : (AH.put HB c (.list out)) c = some (.list out) := AH.put_self _ _ _
  generalize (AH.put HB c (.list out)) = HC at *
  refine Ev.comp (CompOk.of (by kernel_rfl)) ?_
  refine Co.fresh ds ?_
  refine Ei.range ?_
  repeat walk_at "ev"
  refine Cl.range1 fun r t u v hr => ?_
  refine ⟨r, HC, 0, _, 1, t, u, v, 4, rfl, rfl, hr, by decide, by decide, by rw [ed]; rfl, by omega, fun _ _ => trivial, ?_, ?_⟩
  · intro L i x d H' hx hd e
    have hi : i < 4 := by rw [← ed]; exact (List.getElem?_eq_some_iff.mp hd).1
    unfold rangeV at hx
    rw [List.getElem?_map, List.getElem?_range hi] at hx
    cases hx
    dsimp only
    rw [show (0 : Int) + (i : Int) * 1 = i by omega]
    refine ⟨[("way", .int i)], rfl, bl1 rfl, ?_⟩
    repeat walk_at "ev"
    refine Clc.cl (c_mixed ok (n := n) (rm.to) (e _ _ (E1 _ _ (F.ext _ _ h1))) (e _ _ (E1 _ _ (F.ext _ _ h2))) (by omega) hi (fun p hp => ⟨(hS _ (bl.pairs p hp).2.1).1, (bl.pairs p hp).1⟩) (fun p hp => ⟨(hT _ (bm.pairs p hp).2.1).1, (bm.pairs p hp).1⟩) fun b j H3 hj _ hb E hb' => ⟨E, ?_⟩)
    rw [mx i j d hj hd]
    exact pL_rd hb'
  intro out2 HD E2 R2 c2 hc2
  refine Do.neD (n := n) (rm.to) (RD.list ((E2.trans (Ext.put hc2)) _ _ hl1) (RDs.ext (E2.trans (Ext.put hc2)) R1)) (RD.list (AH.put_self _ _ _) (RDs.ext (Ext.put hc2) R2)) sh.1 sh.1 ?_
  rw [sh.2]
  refine ⟨_, rfl, fun e => (by cases e), fun _ => ?_⟩
  exact Ex.nil (h _ _ (R.grow ((E1.trans E2).trans (Ext.put hc2))))
end
section
variable {G : Gl} {a : Ad} (ok : Ok G a) {A : Around} {H K : AH} {σ : Lo} {Qn : Lo → AH → Prop} {Qr : V → AH → Prop} {n : Nat} {q : Str} {code : Value} {L D CL nr fr x1 x2 : Addr} {l m : List Int} {S T : Int → Prop}
include ok
theorem rt3 (rm : Rm A (n + 39)) (R : RS a σ H K D CL nr fr x1 x2 l m) (bl : Bd l S) (bm : Bd m T) (hz : l.length + m.length ≤ 60)
    (h : ∀ H' K', RS a σ H' K' D CL nr fr x1 x2 l m → Qn σ H') :
    Ex1 (Cx.of G A (n + 39) rm (fnScope (top 25)) rfl q code a.right L) (st 25 3) σ H Qn Qr := by
  have ll := rangesOf_len l
  obtain ⟨F, s1, s2, s3, s4, s5, h1, h2, c1, c2⟩ := id R
  refine Ex1.if_ ?_
  refine Et.or ?_
  refine Et.compare ?_
  refine Ev.list ?_
  refine Es.cons ?_
  refine Ev.meth0 ?_
  repeat walk_at "ev"
  refine ⟨_, _, _, CSet.gm ok (c1.ext F.ext) (by decide) rfl, ok.cs3.kp, ?_⟩
  refine Clc.cl (cs_ranges ok (n := n) (rm.to) (c1.ext F.ext) bl.2.1 (by omega) fun b1 H1 hb1 E1 g1 => ?_)
  refine Es.cons ?_
  refine Ev.meth0 ?_
  repeat walk_at "ev"
  refine ⟨_, _, _, CSet.gm ok ((c2.ext F.ext).ext E1) (by decide) rfl, ok.cs3.kp, ?_⟩
  refine Clc.cl (cs_ranges ok (n := n) (rm.to) ((c2.ext F.ext).ext E1) bm.2.1 (by omega) fun b2 H2 hb2 E2 g2 => ?_)
  refine Es.nil ?_
  refine ⟨by simp, fun c3 hc3 => ?_⟩
  repeat walk_at "ev"
  intro c4 hc4
  have E4 := (E1.trans E2).trans ((Ext.put (o := .list [.ref b1, .ref b2]) hc3).trans (Ext.put (o := .list [.ref nr, .ref fr]) hc4))
  have sh : Lay 3 (.list [pL (rangesOf l), pL (rangesOf m)]) := Lay.list fun d hd => by
    simp only [List.mem_cons, List.not_mem_nil, or_false] at hd
    rcases hd with rfl | rfl <;> exact Lay.pL _
  have e3 := (Ext.put (o := .list [.ref b1, .ref b2]) hc3).trans (Ext.put (o := .list [.ref nr, .ref fr]) hc4)
  refine Do.neD (n := n) (d1 := .list [pL (rangesOf l), pL (rangesOf m)]) (d2 := .list [pL (rangesOf l), pL (rangesOf m)]) (rm.to) (RD.list (Ext.put hc4 _ _ (AH.put_self _ _ _)) (.cons (pL_rd (e3 _ _ (E2 _ _ g1))) (.cons (pL_rd (e3 _ _ g2)) .nil)))
    (RD.list (AH.put_self _ _ _) (.cons (pL_rd (E4 _ _ (F.ext _ _ h1))) (.cons (pL_rd (E4 _ _ (F.ext _ _ h2))) .nil))) (sh.shaped (by decide)) (sh.shaped (by decide)) ?_
  rw [sh.refl]
  generalize (AH.put (AH.put H2 c3 (.list [.ref b1, .ref b2])) c4 (.list [.ref nr, .ref fr])) = H3 at *
  refine ⟨_, rfl, fun e => (by cases e), fun _ => ?_⟩
  clear E1 E2 e3 g1 g2 hc3 hc4 sh
  refine Et.compare ?_
  refine Ev.meth0 ?_
  repeat walk_at "ev"
  refine ⟨_, _, _, CSet.gm ok ((c1.ext F.ext).ext E4) (by decide) rfl, ok.cs4.kp, ?_⟩
  refine Clc.cl (cs_size ok (n := n) (rm.to) ((c1.ext F.ext).ext E4) bl.2.1 (by omega) fun H4 E5 => ?_)
  have h1' := E5 _ _ (E4 _ _ (F.ext _ _ h1))
  refine Ev.call ?_
  repeat walk_at "ev"
  refine Ev.comp (CompOk.of (by kernel_rfl)) ?_
  refine Co.pure ?_
  refine Ei.list ?_
  repeat walk_at "ev"
  obtain ⟨f, hf, hfm⟩ := fm_of pv pv_inj (fun _ => true) (fun p => .int (p.2 - p.1 + 1))
  refine ⟨nr, _, rfl, h1', f, h1', by rw [List.length_map]; omega, fun L w hw => ?_, ?_⟩
  · obtain ⟨r, hr, rfl⟩ := List.mem_map.mp hw
    refine ⟨[("first", .int r.1), ("last", .int r.2)], rfl, bl2 rfl rfl, ?_⟩
    show _ ∧ _
    refine ⟨rfl, fun _ => ?_, fun e => (by cases e)⟩
    repeat walk_at "ev"
    rw [hf]; rfl
  rw [hfm, List.filter_eq_self.mpr (fun _ _ => rfl)]
  intro b5 hb5
  refine Es.nil ?_
  have em : ((rangesOf l).map fun p => V.int (p.2 - p.1 + 1)) = ((rangesOf l).map fun p => p.2 + 1 - p.1).map .int := by
    rw [List.map_map]
    refine List.map_congr_left fun p _ => ?_
    show V.int (p.2 - p.1 + 1) = V.int (p.2 + 1 - p.1)
    congr 1; omega
  rw [em]
  refine Cl.sum (n := n) (rm.base) (AH.put_self _ _ _) ?_
  repeat walk_at "ev"
  rw [bne_self_eq_false]
  refine ⟨fun e => (by cases e), fun _ => ?_⟩
  exact Ex.nil (h _ _ (R.grow ((E4.trans E5).trans (Ext.put hb5))))
end
theorem points_at {i : Int} (h0 : 0 ≤ i) (h1 : i < 12) : ∃ c, (points.map V.int)[i.toNat]? = some (.int c) ∧ c ∈ points := by
  have hl : i.toNat < points.length := by show i.toNat < 12; omega
  exact ⟨points[i.toNat], by rw [List.getElem?_map, List.getElem?_eq_getElem hl]; rfl, List.getElem_mem hl⟩
theorem points_le {c : Int} (h : c ∈ points) : 0 ≤ c ∧ c ≤ 1114111 := by
  have : ∀ c ∈ points, 0 ≤ c ∧ c ≤ 1114111 := by decide
  exact this c h
section
variable {C : Cx} {σ : Lo} {H K : AH}
/-- _law_points[_law_draw(deck, len(_law_points))] -/
theorem Ev.point {a : Ad} {n : Nat} {D CL : Addr} {pos p1 p2 p3 p4 p5 p6 p7} {Q : V → AH → Prop} (ok : Ok C.G a) (rm : Rm C.A (n + 9)) (F : Fs H D CL K) (g1 : C.env.kindOf "_law_points" = some .globalImplicit) (g2 : C.env.kindOf "_law_draw" = some .globalImplicit) (g3 : C.env.kindOf "len" = some .globalImplicit)
    (hd : ∀ {Q : V → AH → Prop}, Q (.ref D) H → Ev C (.Name "deck" p3) σ H Q) (h : ∀ c H' K', c ∈ points → Fs H' D CL K' → Ext K K' → Q (.int c) H') :
    Ev C (.Subscript (.Name "_law_points" p1) (.Call (.Name "_law_draw" p2) [.Name "deck" p3, .Call (.Name "len" p4) [.Name "_law_points" p5] [] p6] [] p7) pos) σ H Q := by
  refine Ev.sub ?_
  refine Ev.gl (Ok.toOk0 ok) g1 (by with_unfolding_all rfl) ?_
  refine Ev.call ?_
  refine Ev.gl (Ok.toOk0 ok) g2 (by with_unfolding_all rfl) ?_
  refine ⟨_, rfl, Fn.kp ok.draw, ?_⟩
  refine Es.cons (hd ?_)
  refine Es.cons ?_
  refine Ev.call ?_
  refine Ev.bi (Ok.toOk0 ok) g3 (by with_unfolding_all rfl) ?_
  refine ⟨_, rfl, Kp.builtin, ?_⟩
  refine Es.cons ?_
  refine Ev.gl (Ok.toOk0 ok) g1 (by with_unfolding_all rfl) ?_
  refine Es.nil ?_
  refine Cl.lenT (by decide) ?_
  refine Es.nil ?_
  refine Clc.cl (F.draw ok rm (by decide) fun i H' K' h0 h1 F' e => ?_)
  have h1 : i < 12 := h1
  obtain ⟨c, hc, hm⟩ := points_at h0 h1
  exact Do.itemT h0 (by omega) hc (h c H' K' hm F' e)
end
section
variable {G : Gl} {a : Ad} (ok : Ok G a) {A : Around} {H K : AH} {σ : Lo} {Qn : Lo → AH → Prop} {Qr : V → AH → Prop} {n : Nat} {q : Str} {code : Value} {L D CL nr fr x1 x2 : Addr} {l m : List Int} {S T : Int → Prop}
include ok
theorem rt4 (rm : Rm A (n + 39)) (R : RS a σ H K D CL nr fr x1 x2 l m) (h : ∀ c H' K', c ∈ points → RS a (Lo.put σ "code" (.int c)) H' K' D CL nr fr x1 x2 l m → Qn (Lo.put σ "code" (.int c)) H') :
    Ex1 (Cx.of G A (n + 39) rm (fnScope (top 25)) rfl q code a.right L) (st 25 4) σ H Qn Qr := by
  refine Ex1.assign (Or.inr ⟨by kernel_rfl, by kernel_rfl⟩) ?_
  refine Ev.point ok (n := n) (rm.to) R.F (by kernel_rfl) (by kernel_rfl) (by kernel_rfl) (fun q => Ev.local (by kernel_rfl) R.s1 q) fun c H' K' hc F' e => ?_
  exact h c H' K' hc ((R.ext F' e).set (by decide))
theorem rt5 (rm : Rm A (n + 39)) (R : RS a σ H K D CL nr fr x1 x2 l m) {c : Int} (hc : σ "code" = some (.int c)) (hz : l.length + m.length ≤ 60) (h : ∀ lt H' K', RS a (Lo.put σ "later" (.ref lt)) H' K' D CL nr fr x1 x2 l m → H' lt = some (.list ((laters l c).map .int)) → Qn (Lo.put σ "later" (.ref lt)) H') :
    Ex1 (Cx.of G A (n + 39) rm (fnScope (top 25)) rfl q code a.right L) (st 25 5) σ H Qn Qr := by
  have ll := rangesOf_len l
  obtain ⟨F, s1, s2, s3, s4, s5, h1, h2, c1, c2⟩ := id R
  refine Ex1.assignComp (CompOk.of (by kernel_rfl)) (by walk_at "own") ?_ (by kernel_rfl)
  refine Co.pure ?_
  refine Ei.list ?_
  repeat walk_at "ev"
  obtain ⟨f, hf, hfm⟩ := fm_of pv pv_inj (fun p => decide (c ≤ p.2)) (fun p => .int (if c > p.1 then c else p.1))
  refine ⟨nr, _, rfl, F.ext _ _ h1, f, F.ext _ _ h1, by rw [List.length_map]; omega, fun L w hw => ?_, ?_⟩
  · obtain ⟨r, hr, rfl⟩ := List.mem_map.mp hw
    refine ⟨[("first", .int r.1), ("last", .int r.2)], rfl, bl2 rfl rfl, ?_⟩
    show Et _ _ _ _ _
    repeat walk_at "ev"
    refine ⟨fun e => ?_, fun e => ?_⟩
    · repeat walk_at "ev"
      refine Cl.max (n := n) (rm.base) ?_
      refine ⟨rfl, ?_⟩
      rw [hf, if_pos e]
    · rw [hf, if_neg (by rw [show decide (c ≤ r.2) = false from e]; exact Bool.false_ne_true)]
  rw [hfm]
  intro b hb
  have em : (((rangesOf l).filter fun p => decide (c ≤ p.2)).map fun p => V.int (if c > p.1 then c else p.1)) = (laters l c).map .int := by
    unfold laters; rw [List.map_map]; rfl
  rw [em]
  obtain ⟨F', kb⟩ := F.put (o := .list ((laters l c).map .int)) hb
  exact h b _ _ ((R.ext F' (Ext.put kb)).set (by decide)) (AH.put_self _ _ _)
theorem rt8 (rm : Rm A (n + 39)) (R : RS a σ H K D CL nr fr x1 x2 l m) {c : Int} (hc : σ "code" = some (.int c)) (h : ∀ d H' K', d ∈ points → RS a (Lo.put (Lo.put σ "last" (.int d)) "first" (.int c)) H' K' D CL nr fr x1 x2 l m → Qn (Lo.put (Lo.put σ "last" (.int d)) "first" (.int c)) H') :
    Ex1 (Cx.of G A (n + 39) rm (fnScope (top 25)) rfl q code a.right L) (st 25 8) σ H Qn Qr := by
  refine Ex1.assignTS (names := ["first", "last"]) ?_
  refine Ev.tuple ?_
  refine Es.cons ?_
  walk_at "ev"
  refine Es.cons ?_
  refine Ev.point ok (n := n) (rm.to) R.F (by kernel_rfl) (by kernel_rfl) (by kernel_rfl) (fun q => Ev.local (by kernel_rfl) R.s1 q) fun d H' K' hd F' e => ?_
  repeat walk_at "ev"
  refine ⟨on2 (by walk_at "own") (by walk_at "own"), ?_⟩
  exact h d H' K' hd (((R.ext F' e).set (by decide)).set (by decide))
end
noncomputable def faD (l : List Int) (k : Int) : PyData := match (laters l k)[0]? with
  | some v => .int v
  | none => .none
theorem faD_rd {H : AH} {l : List Int} {S} (h : Bd l S) (k : Int) : RD H (firstAt l k) (faD l k) := by
  rw [firstAt_eq h]
  unfold faD
  cases (laters l k)[0]? with
  | none => exact .none
  | some v => exact .int v
theorem faD_nice {l : List Int} {S} (h : Bd l S) (hS : ∀ k, S k → 0 ≤ k ∧ k ≤ 1114111) {k : Int} (hk : 0 ≤ k ∧ k ≤ 1114111) : Nice 40 0 (faD l k) := by
  unfold faD
  cases e : (laters l k)[0]? with
  | none => exact Nice.none
  | some v =>
    refine Nice.int ?_
    have hv := List.mem_of_getElem? e
    unfold laters at hv
    obtain ⟨p, hp, rfl⟩ := List.mem_map.mp hv
    have := hS _ (h.pairs p (List.mem_filter.mp hp).1).2.1
    split <;> omega
theorem Nice.two {w dp : Nat} {x y : PyData} (hx : Nice w dp x) (hy : Nice w dp y) : Nice (2 * (w + 1)) (dp + 1) (.list [x, y]) := Nice.list (k := 2) (fun d hd => by
  simp only [List.mem_cons, List.not_mem_nil, or_false] at hd
  rcases hd with rfl | rfl <;> assumption) (by simp)
section
variable {G : Gl} {a : Ad} (ok : Ok G a) {A : Around} {H K : AH} {σ : Lo} {Qn : Lo → AH → Prop} {Qr : V → AH → Prop} {n : Nat} {q : Str} {code : Value} {L D CL nr fr x1 x2 : Addr} {l m : List Int} {S T : Int → Prop}
include ok
theorem rt6 (rm : Rm A (n + 39)) (R : RS a σ H K D CL nr fr x1 x2 l m) (bl : Bd l S) (hS : ∀ k, S k → 0 ≤ k ∧ k ≤ 1114111) (hz : l.length + m.length ≤ 60) {c : Int} (hc : σ "code" = some (.int c)) (hcp : c ∈ points) {lt : Addr} (s7 : σ "later" = some (.ref lt)) (g7 : H lt = some (.list ((laters l c).map .int)))
    (h : ∀ H' K', RS a σ H' K' D CL nr fr x1 x2 l m → Qn σ H') :
    Ex1 (Cx.of G A (n + 39) rm (fnScope (top 25)) rfl q code a.right L) (st 25 6) σ H Qn Qr := by
  have ll := rangesOf_len l
  obtain ⟨F, s1, s2, s3, s4, s5, h1, h2, c1, c2⟩ := id R
  have nice : Nice 82 1 (.list [.bool (cnt l c % 2 == 1), faD l c]) := Nice.two Nice.bool (faD_nice bl hS (points_le hcp))
  refine Ex1.if_ ?_
  refine Et.compare ?_
  refine Ev.call ?_
  repeat walk_at "ev"
  refine ⟨_, _, _, CSet.gm ok (c1.ext F.ext) (by decide) rfl, ok.cs2.kp, ?_⟩
  repeat walk_at "ev"
  refine Clc.cl (c_has_ ok (n := n) (rm.to) (c1.ext F.ext) bl.1 ?_)
  repeat walk_at "ev"
  refine ⟨_, _, _, CSet.gm ok (c1.ext F.ext) (by decide) rfl, ok.cs11.kp, ?_⟩
  repeat walk_at "ev"
  refine Clc.cl (cs_firstAt ok (n := n) (rm.to) (c1.ext F.ext) bl.1 ?_)
  repeat walk_at "ev"
  intro b1 hb1
  repeat walk_at "ev"
  refine Cl.repr (n := n) (d := .list [.bool (cnt l c % 2 == 1), faD l c]) (rm.to) (RD.list (AH.put_self _ _ _) (.cons (.bool _) (.cons (faD_rd bl c) .nil))) (nice.shaped (by decide)) nice.sho (nice.len (by decide)) ?_
  have E1 := Ext.put (o := .list [.bool (cnt l c % 2 == 1), firstAt l c]) hb1
  generalize (AH.put H b1 (.list [.bool (cnt l c % 2 == 1), firstAt l c])) = H1 at *
  refine Ev.call ?_
  repeat walk_at "ev"
  refine Clc.cl (c_has ok (n := n) (rm.to) (E1 _ _ (F.ext _ _ h1)) (by omega) fun H2 E2 => ?_)
  rw [bl.inP_cnt]
  refine Es.cons ?_
  refine Ev.mono (Q := fun r H3 => Ext H2 H3 ∧ RD H3 r (faD l c)) ?_ ?_
  · refine Ev.ifexp ?_
    repeat walk_at "ev"
    intro b2 hb2
    have g8 := Ext.put (o := .list []) hb2 _ _ (E2 _ _ (E1 _ _ g7))
    refine Do.neD (n := n) (rm.to) (RD.ints g8) (RD.ints (l := []) (AH.put_self _ _ _)) (shaped_ints _) (shaped_ints _) ?_
    rw [eqv_nil]
    refine ⟨_, rfl, fun e => ?_, fun e => ?_⟩
    · have e : laters l c ≠ [] := by simpa using e
      have e0 : (laters l c)[0]? = some ((laters l c).head e) := by rw [← List.head?_eq_getElem?, List.head?_eq_some_head]
      repeat walk_at "ev"
      refine Do.item g8 (by decide) (item_get (i := 0) e0) ?_
      refine ⟨Ext.put hb2, ?_⟩
      unfold faD; rw [e0]; exact .int _
    · have e : laters l c = [] := by simpa using e
      repeat walk_at "ev"
      refine ⟨Ext.put hb2, ?_⟩
      unfold faD; rw [e]; exact .none
  rintro r H3 ⟨E3, rd⟩
  repeat walk_at "ev"
  intro b3 hb3
  repeat walk_at "ev"
  refine Cl.repr (n := n) (d := .list [.bool (cnt l c % 2 == 1), faD l c]) (rm.to) (RD.list (AH.put_self _ _ _) (.cons (.bool _) (.cons (RD.ext (Ext.put hb3) rd) .nil))) (nice.shaped (by decide)) nice.sho (nice.len (by decide)) ?_
  repeat walk_at "ev"
  rw [bne_self_eq_false]
  refine ⟨fun e => (by cases e), fun _ => ?_⟩
  exact Ex.nil (h _ _ (R.grow (((E1.trans E2).trans E3).trans (Ext.put hb3))))
theorem rt7 (rm : Rm A (n + 39)) (R : RS a σ H K D CL nr fr x1 x2 l m) (bl : Bd l S) (bm : Bd m T) (hz : l.length + m.length ≤ 60) (h : ∀ H' K', RS a σ H' K' D CL nr fr x1 x2 l m → Qn σ H') :
    Ex1 (Cx.of G A (n + 39) rm (fnScope (top 25)) rfl q code a.right L) (st 25 7) σ H Qn Qr := by
  have ll := rangesOf_len l
  obtain ⟨F, s1, s2, s3, s4, s5, h1, h2, c1, c2⟩ := id R
  have nice : Nice 82 1 (.list [.bool (decide (l = m)), .bool true]) := Nice.two Nice.bool Nice.bool
  refine Ex1.if_ ?_
  refine Et.compare ?_
  refine Ev.call ?_
  repeat walk_at "ev"
  refine ⟨_, _, _, CSet.gm ok (c1.ext F.ext) (by decide) rfl, ok.cs10.kp, ?_⟩
  repeat walk_at "ev"
  refine Clc.cl (cs_equals ok (n := n) (rm.to) (c1.ext F.ext) (c2.ext F.ext) ?_)
  repeat walk_at "ev"
  refine ⟨_, _, _, CSet.gm ok (c1.ext F.ext) (by decide) rfl, ok.cs10.kp, ?_⟩
  refine Es.cons ?_
  refine Ev.meth1 ?_
  repeat walk_at "ev"
  refine ⟨_, _, _, ok.of_ _ _, Fn.kp ok.cs1, ?_⟩
  repeat walk_at "ev"
  refine Clc.cl (cs_of ok (n := n) (rm.to) (F.ext _ _ h1) (by omega) fun x l' H1 q1 _ cx E1 _ => ?_)
  obtain rfl := bl.unique (q1.congr fun k => bl.mem k)
  repeat walk_at "ev"
  refine Clc.cl (cs_equals ok (n := n) (rm.to) ((c1.ext F.ext).ext E1) cx ?_)
  rw [decide_eq_true rfl]
  repeat walk_at "ev"
  intro b1 hb1
  repeat walk_at "ev"
  refine Cl.repr (n := n) (d := .list [.bool (decide (l = m)), .bool true]) (rm.to) (RD.list (AH.put_self _ _ _) (.cons (.bool _) (.cons (.bool _) .nil))) (nice.shaped (by decide)) nice.sho (nice.len (by decide)) ?_
  replace E1 := E1.trans (Ext.put (o := .list [.bool (decide (l = m)), .bool true]) hb1)
  generalize (AH.put H1 b1 (.list [.bool (decide (l = m)), .bool true])) = H2 at *
  refine Ev.call ?_
  repeat walk_at "ev"
  refine Do.eqD (n := n) (rm.to) (pL_rd (E1 _ _ (F.ext _ _ h1))) (pL_rd (E1 _ _ (F.ext _ _ h2))) (shaped_pL _) (shaped_pL _) ?_
  rw [eqv_pL, show decide (rangesOf l = rangesOf m) = decide (l = m) by
    rw [Bool.eq_iff_iff, decide_eq_true_eq, decide_eq_true_eq]
    exact ⟨rangesOf_inj bl bm, fun e => by rw [e]⟩]
  repeat walk_at "ev"
  intro b3 hb3
  repeat walk_at "ev"
  refine Cl.repr (n := n) (d := .list [.bool (decide (l = m)), .bool true]) (rm.to) (RD.list (AH.put_self _ _ _) (.cons (.bool _) (.cons (.bool _) .nil))) (nice.shaped (by decide)) nice.sho (nice.len (by decide)) ?_
  repeat walk_at "ev"
  rw [bne_self_eq_false]
  refine ⟨fun e => (by cases e), fun _ => ?_⟩
  exact Ex.nil (h _ _ (R.grow (E1.trans (Ext.put hb3))))
end
section
variable {G : Gl} {a : Ad} (ok : Ok G a) {A : Around} {H K : AH} {σ : Lo} {Q : V → AH → Prop} {Qn : Lo → AH → Prop} {Qr : V → AH → Prop} {n : Nat} {q : Str} {code : Value} {L D CL nr fr x1 x2 : Addr} {l m : List Int} {S T : Int → Prop}
include ok
theorem rt9 (rm : Rm A (n + 39)) (R : RS a σ H K D CL nr fr x1 x2 l m) (bl : Bd l S) (hz : l.length + m.length ≤ 60) {c d : Int} (s7 : σ "first" = some (.int c)) (s8 : σ "last" = some (.int d))
    (h : ∀ H' K' k, K' nr = some (.list ((rangesOf l).map pv)) → Fs H' D CL K' → CSet a K' x1 k → Bd k (fun k => S k ∨ (c ≤ k ∧ k ≤ d)) → k.length ≤ l.length + 2 → Qn σ H') :
    Ex1 (Cx.of G A (n + 39) rm (fnScope (top 25)) rfl q code a.right L) (st 25 9) σ H Qn Qr := by
  obtain ⟨F, s1, s2, s3, s4, s5, h1, h2, c1, c2⟩ := R
  have c1' := c1.ext F.ext
  refine Ex1.expr ?_
  refine Ev.meth1 ?_
  repeat walk_at "ev"
  refine ⟨_, _, _, CSet.gm ok c1' (by decide) rfl, ok.cs9.kp, ?_⟩
  repeat walk_at "ev"
  obtain ⟨dd, b, g1, g2, g3⟩ := c1
  refine Clc.cl (F.call (cs_add ok (n := n) (rm.to) g1 g2 g3 bl (by omega) fun k K' bd hl cs E H' F' => ⟨rfl, ?_⟩))
  exact h H' K' k (E _ _ (fun q => by subst q; rw [h1] at g2; cases g2) h1) F' cs bd hl
theorem rt10 (rm : Rm A (n + 39)) (bl : Bd l S) (hS : ∀ k, S k → 0 ≤ k ∧ k ≤ 1114111) (hz : l.length ≤ 60) {c d : Int} (hc : c ∈ points) (hd : d ∈ points) {k : List Int} (F : Fs H D CL K) (s2 : σ "near" = some (.ref nr)) (s4 : σ "one" = some (.ref x1)) (h1 : K nr = some (.list ((rangesOf l).map pv)))
    (s7 : σ "first" = some (.int c)) (s8 : σ "last" = some (.int d)) (cx : CSet a K x1 k) (bk : Bd k (fun k => S k ∨ (c ≤ k ∧ k ≤ d))) (hk : k.length ≤ l.length + 2) (h : ∀ H', Qr (.bool true) H') :
    Ex1 (Cx.of G A (n + 39) rm (fnScope (top 25)) rfl q code a.right L) (st 25 10) σ H Qn Qr := by
  have ll := rangesOf_len l
  have pc := points_le hc
  have pd := points_le hd
  refine Ex1.ret ?_
  refine Ev.compare ?_
  refine Ev.meth0 ?_
  repeat walk_at "ev"
  refine ⟨_, _, _, CSet.gm ok (cx.ext F.ext) (by decide) rfl, ok.cs3.kp, ?_⟩
  refine Clc.cl (cs_ranges ok (n := n) (rm.to) (cx.ext F.ext) bk.2.1 (by omega) fun b1 H1 hb1 E1 g1 => ?_)
  have h1' := E1 _ _ (F.ext _ _ h1)
  refine Ev.ifexp ?_
  repeat walk_at "ev"
  refine ⟨fun e => ?_, fun e => ?_⟩
  · have e : c ≤ d := by simpa using e
    repeat walk_at "ev"
    intro b2 hb2
    repeat walk_at "ev"
    have g2 : (AH.put H1 b2 (.list [.tup [.int c, .int d]])) b2 = some (.list ([(c, d)].map pv)) := AH.put_self _ _ _
    refine Clc.cl (c_mixed ok (way := 0) (n := n) (rm.to) (Ext.put hb2 _ _ h1') g2 (by rw [List.length_singleton]; omega) (by decide) (fun p hp => ⟨(hS _ (bl.pairs p hp).2.1).1, (bl.pairs p hp).1⟩)
      (fun p hp => by rw [List.mem_singleton] at hp; subst hp; exact ⟨pc.1, e⟩) fun b j H3 hj _ hb E hb' => ?_)
    have ej : j = k := hj.unique (bk.congr fun z => by
      show _ ↔ _ ∧ (inP _ z || inP _ z) = true
      rw [Bool.or_eq_true, bl.inP z]
      have : inP [(c, d)] z = true ↔ c ≤ z ∧ z ≤ d := by simp [inP]
      rw [this]
      refine ⟨fun q => ⟨?_, q⟩, fun q => q.2⟩
      rcases q with q | q
      · exact hS z q
      · omega)
    subst ej
    refine Do.eqD (n := n) (rm.to) (pL_rd (E _ _ (Ext.put hb2 _ _ g1))) (pL_rd hb') (shaped_pL _) (shaped_pL _) ?_
    rw [(Lay.pL _).refl]
    exact h _
  · have e : ¬ c ≤ d := by simpa using e
    repeat walk_at "ev"
    have ej : l = k := bl.unique (bk.congr fun z => ⟨fun q => q.elim id (fun q => by omega), .inl⟩)
    subst ej
    refine Do.eqD (n := n) (rm.to) (pL_rd g1) (pL_rd h1') (shaped_pL _) (shaped_pL _) ?_
    rw [(Lay.pL _).refl]
    exact h _
theorem c_right (rm : Rm A (n + 40)) (F : Fs H D CL K) (h1 : K nr = some (.list ((rangesOf l).map pv))) (h2 : K fr = some (.list ((rangesOf m).map pv))) (bl : Bd l S) (bm : Bd m T)
    (hS : ∀ k, S k → 0 ≤ k ∧ k ≤ 1114111) (hT : ∀ k, T k → 0 ≤ k ∧ k ≤ 1114111) (hz : l.length + m.length ≤ 60) (h : ∀ H', Q (.bool true) H') : Clc G A (.ref a.right) [.ref D, .ref nr, .ref fr] H Q := by
  refine Clc.enter rm ok.right rfl (by kernel_rfl) (by kernel_rfl) (by kernel_rfl) (by decide) fun env q code L => ?_
  refine Ex.cons (rt0 ok (rm.deeper env) F h1 h2 bl bm hz fun σ1 H1 K1 x1 x2 R1 => ?_)
  refine Ex.cons (rt1 ok (rm.deeper env) R1 bl bm hz fun σ2 H2 K2 tl y1 y2 y3 y4 k1 k2 k3 k4 R2 s6 ht d1 d2 d3 d4 q1 q2 q3 q4 z1 z2 z3 z4 => ?_)
  refine Ex.cons (rt2 ok (rm.deeper env) R2 bl bm hS hT hz s6 ht d1 d2 d3 d4 q1 q2 q3 q4 z1 z2 z3 z4 fun H3 K3 R3 => ?_)
  refine Ex.cons (rt3 ok (rm.deeper env) R3 bl bm hz fun H4 K4 R4 => ?_)
  refine Ex.cons (rt4 ok (rm.deeper env) R4 fun c H5 K5 hc R5 => ?_)
  refine Ex.cons (rt5 ok (rm.deeper env) R5 (Lo.put_self _ _ _) hz fun lt H6 K6 R6 g6 => ?_)
  have sc : (Lo.put (Lo.put σ2 "code" (.int c)) "later" (.ref lt)) "code" = some (.int c) := (Lo.put_ne _ _ (by decide)).trans (Lo.put_self _ _ _)
  refine Ex.cons (rt6 ok (rm.deeper env) R6 bl hS hz sc hc (Lo.put_self _ _ _) g6 fun H7 K7 R7 => ?_)
  refine Ex.cons (rt7 ok (rm.deeper env) R7 bl bm hz fun H8 K8 R8 => ?_)
  refine Ex.cons (rt8 ok (rm.deeper env) R8 sc fun d H9 K9 hd R9 => ?_)
  refine Ex.cons (rt9 ok (rm.deeper env) R9 bl hz (Lo.put_self _ _ _) ((Lo.put_ne _ _ (by decide)).trans (Lo.put_self _ _ _)) fun H10 K10 k g F10 cx bk hk => ?_)
  exact Ex.cons (rt10 ok (rm.deeper env) bl hS (by omega) hc hd F10 R9.s2 R9.s4 g (Lo.put_self _ _ _) ((Lo.put_ne _ _ (by decide)).trans (Lo.put_self _ _ _)) cx bk hk h)
end
end
section
local macro_rules | `(tactic| walk_at "ev") => `(tactic| with_reducible first
  | refine Ev.cell (x := Str.ofString "deck") (by kernel_rfl) (by first | walk_at "lo" | exact comp_lo1 (by kernel_rfl) (by decide) (by assumption) | exact comp_lo2 (by kernel_rfl) (by decide) (by decide) (by assumption)) ?_
  | refine Ev.cell (x := Str.ofString "default") (by kernel_rfl) (by first | walk_at "lo" | exact comp_lo1 (by kernel_rfl) (by decide) (by assumption) | exact comp_lo2 (by kernel_rfl) (by decide) (by decide) (by assumption)) ?_)
theorem Do.frame {G : Gl} {A : Around} {t : List Value → Sem Value} {rs : List V} {H : AH} {L : List Addr} {Q : V → AH → Prop} (hL : ∀ b ∈ L, ∃ o, H b = some o)
    (h : Do G A rs (H.minus L) t fun r H₁ => (∀ b ∈ L, H₁ b = none) → Q r (H₁.over H L)) : Do G A rs H t Q := fun B s vs S R => by
  have S0 : StH G B (H.minus L) s := ⟨S.os, S.gens, S.top, S.keep, fun a o e => S.hr a o (AH.minus_le e).2, fun a o e => S.apart a o (AH.minus_le e).2⟩
  refine wpAny_mono (h _ s vs S0.max R) (fun v s' z => ?_) fun _ _ x => x
  obtain ⟨r, H₁, v1, S1, q⟩ := z
  have hn : ∀ b ∈ L, H₁ b = none := fun b hb => by
    obtain ⟨o, ho⟩ := hL b hb
    obtain ⟨ob, h1, _⟩ := (S.hr b o ho).obj
    have : Bmax (H.minus L) s.heap b = some ob := Bmax_some (if_pos hb) h1
    cases e : H₁ b with
    | none => rfl
    | some o' => have z := S1.apart _ _ e; rw [this] at z; cases z
  have tk := S0.tup S1
  refine ⟨r, _, v1, ⟨S1.os, S1.gens, S.top, fun b o e => S1.keep b o (S0.le b o e), fun a o e => ?_, fun a o e => ?_⟩, q hn⟩
  · by_cases hb : a ∈ L
    · rw [AH.over_in hb] at e
      refine OR.mono (S.hr a o e) tk fun ob eo => S1.keep _ _ (Bmax_some (if_pos hb) eo)
    · rw [AH.over_out hb] at e
      exact S1.hr a o e
  · by_cases hb : a ∈ L
    · rw [AH.over_in hb] at e
      exact S.apart a o e
    · rw [AH.over_out hb] at e
      have := S1.apart a o e
      cases q : B a with
      | none => rfl
      | some ob => rw [S0.le _ _ q] at this; cases this
theorem Fs.do_ {G A t rs H D CL K} {Q : V → AH → Prop} (F : Fs H D CL K) (h : Do G A rs K t fun r K' => ∀ H', Fs H' D CL K' → Q r H') : Do G A rs H t Q := by
  refine Do.frame F.here ?_
  rw [F.eq]
  intro B s vs S R
  refine wpAny_mono (h B s vs S R) (fun v s' z => ?_) fun _ _ x => x
  obtain ⟨r, K', v', S', q⟩ := z
  refine ⟨r, K', v', S', fun hn => q _ ⟨?_, AH.over_minus hn⟩⟩
  obtain ⟨cells, mixed, h1, h2, h3⟩ := F.dk
  exact ⟨cells, mixed, by rw [AH.over_in (by simp)]; exact h1, by rw [AH.over_in (by simp)]; exact h2, h3⟩
/-- the deck and one list apart from all else -/
structure Gs (H : AH) (D CL pu : Addr) (K : AH) (l : List V) : Prop where
  dk : ∃ cells mixed, Dk H D CL cells mixed
  pl : H pu = some (.list l)
  ne : pu ≠ CL
  eq : H.minus [D, CL, pu] = K
theorem Gs.neD {H D CL pu K l} (F : Gs H D CL pu K l) : pu ≠ D := fun q => by
  obtain ⟨_, _, h1, _⟩ := F.dk
  rw [← q, F.pl] at h1; cases h1
theorem Gs.ext {H D CL pu K l} (F : Gs H D CL pu K l) : Ext K H := by rw [← F.eq]; exact AH.minus_ext
theorem Gs.here {H D CL pu K l} (F : Gs H D CL pu K l) : ∀ b ∈ [D, CL, pu], ∃ o, H b = some o := fun b hb => by
  obtain ⟨_, _, h1, h2, _⟩ := F.dk
  simp only [List.mem_cons, List.not_mem_nil, or_false] at hb
  rcases hb with rfl | rfl | rfl
  · exact ⟨_, h1⟩
  · exact ⟨_, h2⟩
  · exact ⟨_, F.pl⟩
theorem Gs.grow {H H' : AH} {D CL pu : Addr} {K : AH} {l : List V} (F : Gs H D CL pu K l) (e : Ext H H') : Gs H' D CL pu (H'.minus [D, CL, pu]) l ∧ Ext K (H'.minus [D, CL, pu]) := by
  obtain ⟨cells, mixed, h1, h2, h3⟩ := F.dk
  refine ⟨⟨⟨cells, mixed, e _ _ h1, e _ _ h2, h3⟩, e _ _ F.pl, F.ne, rfl⟩, ?_⟩
  rw [← F.eq]; exact (ExtL.minus e.l)
theorem Gs.new {H H' : AH} {D CL pu : Addr} {K : AH} {l : List V} {b : Addr} {o : AO} (F : Gs H D CL pu K l) (hb : H b = none) (h : H' b = some o) : (H'.minus [D, CL, pu]) b = some o :=
  AH.minus_of (fun q => by obtain ⟨_, e⟩ := F.here b q; rw [hb] at e; cases e) h
theorem Gs.put {H D CL pu K l b o} (F : Gs H D CL pu K l) (hb : H b = none) : Gs (AH.put H b o) D CL pu (AH.put K b o) l ∧ K b = none := by
  have nb : b ∉ [D, CL, pu] := fun h => by obtain ⟨o, e⟩ := F.here b h; rw [hb] at e; cases e
  obtain ⟨cells, mixed, h1, h2, h3⟩ := F.dk
  have e := F.eq
  refine ⟨⟨⟨cells, mixed, Ext.put hb _ _ h1, Ext.put hb _ _ h2, h3⟩, Ext.put hb _ _ F.pl, F.ne, ?_⟩, ?_⟩
  · rw [← e]
    funext x
    unfold AH.minus AH.put
    by_cases q : x = b
    · subst q; rw [if_neg nb, if_pos rfl, if_pos rfl]
    · rw [if_neg q, if_neg q]
  · rw [← e]; unfold AH.minus; rw [if_neg nb]; exact hb
theorem Gs.app {H D CL pu K l l'} (F : Gs H D CL pu K l) : Gs (AH.put H pu (.list l')) D CL pu K l' := by
  obtain ⟨cells, mixed, h1, h2, h3⟩ := F.dk
  refine ⟨⟨cells, mixed, (AH.put_ne _ _ F.neD.symm).trans h1, (AH.put_ne _ _ F.ne.symm).trans h2, h3⟩, AH.put_self _ _ _, F.ne, ?_⟩
  rw [← F.eq]
  funext x
  unfold AH.minus AH.put
  by_cases q : x ∈ [D, CL, pu]
  · rw [if_pos q, if_pos q]
  · rw [if_neg q, if_neg q, if_neg (fun e => q (by simp [e]))]
theorem Gs.over {H D CL pu K K' l} (F : Gs H D CL pu K l) (hn : ∀ b ∈ [D, CL, pu], K' b = none) : Gs (K'.over H [D, CL, pu]) D CL pu K' l := by
  obtain ⟨cells, mixed, h1, h2, h3⟩ := F.dk
  exact ⟨⟨cells, mixed, by rw [AH.over_in (by simp)]; exact h1, by rw [AH.over_in (by simp)]; exact h2, h3⟩, by rw [AH.over_in (by simp)]; exact F.pl, F.ne, AH.over_minus hn⟩
theorem Gs.do_ {G A t rs H D CL pu K l} {Q : V → AH → Prop} (F : Gs H D CL pu K l) (h : Do G A rs K t fun r K' => ∀ H', Gs H' D CL pu K' l → Q r H') : Do G A rs H t Q := by
  refine Do.frame F.here ?_
  rw [F.eq]
  intro B s vs S R
  refine wpAny_mono (h B s vs S R) (fun v s' z => ?_) fun _ _ x => x
  obtain ⟨r, K', v', S', q⟩ := z
  exact ⟨r, K', v', S', fun hn => q _ (F.over hn)⟩
theorem Gs.call {G A f rs H D CL pu K l} {Q : V → AH → Prop} (F : Gs H D CL pu K l) (h : Clc G A f rs K fun r K' => ∀ H', Gs H' D CL pu K' l → Q r H') : Clc G A f rs H Q := by
  refine Clc.frame F.here ?_
  rw [F.eq]
  intro B s vs S R
  refine codeAny_mono (h B s vs S R) fun r s' z => ?_
  rcases r with e | (v | _ | _ | _) <;> first | exact z.elim | skip
  obtain ⟨r, K', v', S', q⟩ := z
  exact ⟨r, K', v', S', fun hn => q _ (F.over hn)⟩
theorem Gs.draw {G : Gl} {a : Ad} (ok : Ok G a) {A : Around} {H : AH} {Q : V → AH → Prop} {n : Nat} {D CL pu K l} {many : Int} (F : Gs H D CL pu K l) (rm : Rm A (n + 9)) (hm : 0 < many)
    (h : ∀ (i : Int) H' K', 0 ≤ i → i < many → Gs H' D CL pu K' l → Ext K K' → Q (.int i) H') : Clc G A (.ref a.draw) [.ref D, .int many] H Q := by
  obtain ⟨cells, mixed, d⟩ := F.dk
  refine c_draw ok rm d hm fun i H' cells' mixed' h0 h1 d' e => ?_
  refine h i H' _ h0 h1 ⟨⟨cells', mixed', d'⟩, e _ _ (fun q => ?_) F.pl, F.ne, rfl⟩ (by rw [← F.eq]; exact (e.le (fun b hb => by simp at hb ⊢; rcases hb with hb | hb <;> simp [hb])).minus)
  simp only [List.mem_cons, List.not_mem_nil, or_false] at q
  exact q.elim F.neD F.ne
/-- back to all but the deck -/
theorem Gs.fs {H D CL pu K l} (F : Gs H D CL pu K l) : Fs H D CL (H.minus [D, CL]) ∧ Ext K (H.minus [D, CL]) := by
  refine ⟨⟨F.dk, rfl⟩, fun b o e => ?_⟩
  rw [← F.eq] at e
  obtain ⟨h1, h2⟩ := AH.minus_le e
  exact AH.minus_of (fun q => h1 (by simp at q ⊢; rcases q with q | q <;> simp [q])) h2
/-- what the law draws: a name, its default, the values -/
structure LC (nm : Str) (dflt : S) (ss : List S) : Prop where
  dk : (at? dkv nm).getD .none = dflt.v
  ne : nm ≠ "ea" ∧ nm ≠ "gc"
  len : 3 ≤ ss.length ∧ ss.length ≤ 4
  us : ∀ s ∈ ss, s ∈ US
  ud : dflt ∈ US
  two : ∃ s t u, ss = s :: t :: u ∧ s ≠ t
theorem LC.c0 : LC "sc" (.str "Zzzz") [.str "Latn", .str "Grek", .str "Zzzz"] :=
  ⟨by rw [dk_get.1]; rfl, by decide, by decide, by decide, by decide, _, _, _, rfl, by decide⟩
theorem LC.c1 : LC "ccc" (.int 0) [.int 230, .int 9, .int 0] :=
  ⟨by rw [dk_get.2.1]; rfl, by decide, by decide, by decide, by decide, _, _, _, rfl, by decide⟩
theorem LC.c2 : LC "zz" .none [.bool true, .int 1, .str "1", .none] :=
  ⟨by rw [dk_get.2.2.1]; rfl, by decide, by decide, by decide, by decide, _, _, _, rfl, by decide⟩
noncomputable def sV (ss : List S) : List V := ss.map S.v
/-- the state of law, but for the maps -/
structure LS (a : Ad) (σ : Lo) (H K : AH) (D CL x dm sl pu : Addr) (nm : Str) (dflt : S) (ss : List S) (ps : List (Int × Int × S)) : Prop where
  F : Gs H D CL pu K (ps.map tv)
  s1 : σ "deck" = some (.ref D)
  s2 : σ "name" = some (.str nm)
  s3 : σ "default" = some dflt.v
  s4 : σ "some" = some (.ref sl)
  s5 : σ "data" = some (.ref x)
  s6 : σ "puts" = some (.ref pu)
  g1 : K sl = some (.list (sV ss))
  da : DAt a K x dm
theorem LS.ext {a σ H K H' K' D CL x dm sl pu nm dflt ss ps} (R : LS a σ H K D CL x dm sl pu nm dflt ss ps) (F : Gs H' D CL pu K' (ps.map tv)) (e : Ext K K') : LS a σ H' K' D CL x dm sl pu nm dflt ss ps :=
  ⟨F, R.s1, R.s2, R.s3, R.s4, R.s5, R.s6, e _ _ R.g1, R.da.ext e⟩
theorem LS.grow {a σ H K H' D CL x dm sl pu nm dflt ss ps} (R : LS a σ H K D CL x dm sl pu nm dflt ss ps) (e : Ext H H') : LS a σ H' (H'.minus [D, CL, pu]) D CL x dm sl pu nm dflt ss ps := R.ext (R.F.grow e).1 (R.F.grow e).2
theorem LS.lo {a σ σ' H K D CL x dm sl pu nm dflt ss ps} (R : LS a σ H K D CL x dm sl pu nm dflt ss ps) (e : ∀ y : Str, y ∈ [("deck" : Str), "name", "default", "some", "data", "puts"] → σ' y = σ y) : LS a σ' H K D CL x dm sl pu nm dflt ss ps :=
  ⟨R.F, (e _ (by simp)).trans R.s1, (e _ (by simp)).trans R.s2, (e _ (by simp)).trans R.s3, (e _ (by simp)).trans R.s4, (e _ (by simp)).trans R.s5, (e _ (by simp)).trans R.s6, R.g1, R.da⟩
theorem LS.set {a σ H K D CL x dm sl pu nm dflt ss ps} (R : LS a σ H K D CL x dm sl pu nm dflt ss ps) {y : Str} {r : V} (hy : y ∉ [("deck" : Str), "name", "default", "some", "data", "puts"]) : LS a (Lo.put σ y r) H K D CL x dm sl pu nm dflt ss ps :=
  R.lo fun z hz => Lo.put_ne _ _ fun e => hy (e ▸ hz)
/-- the map of 'ea' -/
noncomputable def eaF : Int → S := fun k => if 3 ≤ k ∧ k ≤ 9 then .str "W" else .str "N"
noncomputable def MA (a : Ad) (K : AH) (m1 d1 : Addr) : Prop := ∃ l1, RMd a K m1 d1 (.str "N") l1 ∧ RW l1 eaF ∧ l1.length ≤ 3
/-- the maps when the one of the name is there -/
structure MC (a : Ad) (K : AH) (dm m1 d1 m2 d2 : Addr) (nm : Str) (dflt : S) (ps : List (Int × Int × S)) (l2 : List (Int × S)) : Prop where
  dm : K dm = some (.sd [("ea", .ref m1), (nm, .ref m2)])
  m1 : MA a K m1 d1
  m2 : RMd a K m2 d2 dflt l2
  rw2 : RW l2 (tolds ps dflt)
  len : l2.length ≤ 2 * ps.length + 1
  ne : d1 ≠ d2
theorem MA.ext {a K K' m1 d1} (h : MA a K m1 d1) (e : Ext K K') : MA a K' m1 d1 := by
  obtain ⟨l1, h1, h2⟩ := h; exact ⟨l1, h1.ext e, h2⟩
theorem MC.ext {a K K' dm m1 d1 m2 d2 nm dflt ps l2} (h : MC a K dm m1 d1 m2 d2 nm dflt ps l2) (e : Ext K K') : MC a K' dm m1 d1 m2 d2 nm dflt ps l2 :=
  ⟨e _ _ h.dm, h.m1.ext e, h.m2.ext e, h.rw2, h.len, h.ne⟩
section
variable {G : Gl} {a : Ad} (ok : Ok G a) {A : Around} {H K : AH} {n : Nat}
include ok
theorem DAt.gm {x dm : Addr} {name : Str} {m : Addr} (d : DAt a H x dm) (hn : name ≠ "defaults" ∧ name ≠ "maps" ∧ name ≠ "properties" ∧ name ≠ "words")
    (hm : List.lookup name [((Str.ofString "put" : Str), a.da 1), ("get", a.da 2), ("map_of", a.da 3)] = some m) : Gm G A (.ref x) name H (.ref m) [.ref x] H := by
  obtain ⟨d, dd, p, w, h1, h2, _⟩ := d
  exact Gm.inst ok.DA h1 h2 ((if_neg hn.2.2.2).trans ((if_neg hn.2.2.1).trans ((if_neg hn.2.1).trans (if_neg hn.1)))) hm
theorem RMap.gm {x : Addr} {dflt : S} {l : List (Int × S)} {name : Str} {m : Addr} (d : RMap a H x dflt l) (hn : name ≠ "default" ∧ name ≠ "starts" ∧ name ≠ "values")
    (hm : List.lookup name [((Str.ofString "get" : Str), a.rm 1), ("put", a.rm 2), ("ranges", a.rm 3), ("set_of", a.rm 4)] = some m) : Gm G A (.ref x) name H (.ref m) [.ref x] H := by
  obtain ⟨d, bs, bv, h1, h2, _⟩ := d
  exact Gm.inst ok.RM h1 h2 ((if_neg hn.2.2).trans ((if_neg hn.2.1).trans (if_neg hn.1))) hm
end
section
variable {G : Gl} {a : Ad} (ok : Ok G a) {A : Around} {H K : AH} {σ : Lo} {Qn : Lo → AH → Prop} {Qr : V → AH → Prop} {n : Nat} {q : Str} {code : Value} {f L D CL x dm sl pu : Addr} {nm : Str} {dflt : S} {ss : List S} {ps : List (Int × Int × S)}
include ok
theorem lt0 (rm : Rm A (n + 59)) {r : Addr} {script : List Int} (hr : Ro G r (script.map .int)) (hz : script.length ≤ 64)
    (h : ∀ H' K' D CL, Fs H' D CL K' → Qn (Lo.put (Lo.of (List.zip ["script"] [.ref r])) "deck" (.ref D)) H') :
    Ex1 (Cx.of G A (n + 59) rm (fnScope (top 26)) rfl q code f L) (st 26 0) (Lo.of (List.zip ["script"] [.ref r])) H Qn Qr := by
  refine Ex1.assign (Or.inr ⟨by kernel_rfl, by kernel_rfl⟩) ?_
  repeat walk_at "ev"
  refine Clc.cl (c_deck ok (n := n) (rm.to) hr hz fun D CL H' cells mixed d E _ _ => ?_)
  exact h H' _ D CL ⟨⟨cells, mixed, d⟩, rfl⟩
theorem lt1 (rm : Rm A (n + 59)) (F : Fs H D CL K) (s1 : σ "deck" = some (.ref D))
    (h : ∀ H' K' nm dflt ss sl, LC nm dflt ss → Fs H' D CL K' → K' sl = some (.list (sV ss)) → Qn (Lo.put (Lo.put (Lo.put σ "name" (.str nm)) "default" dflt.v) "some" (.ref sl)) H') :
    X1 (Cx.of G A (n + 59) rm (fnScope (top 26)) rfl q code f L) (st 26 1) σ H Qn Qr := by
  refine ⟨?_⟩
  refine Ex1.assignT ?_
  refine Ev.sub ?_
  refine Ev.list ?_
  refine Es.cons ?_
  repeat walk_at "ev"
  intro l1 hl1
  obtain ⟨F1, k1⟩ := F.put (o := .list (sV [.str "Latn", .str "Grek", .str "Zzzz"])) hl1
  repeat walk_at "ev"
  intro l2 hl2
  obtain ⟨F2, k2⟩ := F1.put (o := .list (sV [.int 230, .int 9, .int 0])) hl2
  repeat walk_at "ev"
  intro l3 hl3
  obtain ⟨F3, k3⟩ := F2.put (o := .list (sV [.bool true, .int 1, .str "1", .none])) hl3
  repeat walk_at "ev"
  intro l4 hl4
  obtain ⟨F4, k4⟩ := F3.put (o := .list [.tup [.str "sc", .str "Zzzz", .ref l1], .tup [.str "ccc", .int 0, .ref l2], .tup [.str "zz", .none, .ref l3]]) hl4
  have g3 : (AH.put (AH.put (AH.put (AH.put K l1 (.list (sV [.str "Latn", .str "Grek", .str "Zzzz"]))) l2 (.list (sV [.int 230, .int 9, .int 0]))) l3 (.list (sV [.bool true, .int 1, .str "1", .none]))) l4 (.list [.tup [.str "sc", .str "Zzzz", .ref l1], .tup [.str "ccc", .int 0, .ref l2], .tup [.str "zz", .none, .ref l3]])) l3 = some (.list (sV [.bool true, .int 1, .str "1", .none])) := Ext.put k4 _ _ (AH.put_self _ _ _)
  have g2 := Ext.put (o := .list [.tup [.str "sc", .str "Zzzz", .ref l1], .tup [.str "ccc", .int 0, .ref l2], .tup [.str "zz", .none, .ref l3]]) k4 _ _ (Ext.put (o := .list (sV [.bool true, .int 1, .str "1", .none])) k3 _ _ (AH.put_self (AH.put K l1 (.list (sV [.str "Latn", .str "Grek", .str "Zzzz"]))) l2 (.list (sV [.int 230, .int 9, .int 0]))))
  have g1 := Ext.put (o := .list [.tup [.str "sc", .str "Zzzz", .ref l1], .tup [.str "ccc", .int 0, .ref l2], .tup [.str "zz", .none, .ref l3]]) k4 _ _ (Ext.put (o := .list (sV [.bool true, .int 1, .str "1", .none])) k3 _ _ (Ext.put (o := .list (sV [.int 230, .int 9, .int 0])) k2 _ _ (AH.put_self K l1 (.list (sV [.str "Latn", .str "Grek", .str "Zzzz"])))))
  have g4 := AH.put_self (AH.put (AH.put (AH.put K l1 (.list (sV [.str "Latn", .str "Grek", .str "Zzzz"]))) l2 (.list (sV [.int 230, .int 9, .int 0]))) l3 (.list (sV [.bool true, .int 1, .str "1", .none]))) l4 (.list [.tup [.str "sc", .str "Zzzz", .ref l1], .tup [.str "ccc", .int 0, .ref l2], .tup [.str "zz", .none, .ref l3]])
  generalize (AH.put (AH.put (AH.put (AH.put K l1 (.list (sV [.str "Latn", .str "Grek", .str "Zzzz"]))) l2 (.list (sV [.int 230, .int 9, .int 0]))) l3 (.list (sV [.bool true, .int 1, .str "1", .none]))) l4 (.list [.tup [.str "sc", .str "Zzzz", .ref l1], .tup [.str "ccc", .int 0, .ref l2], .tup [.str "zz", .none, .ref l3]])) = K4 at F4 g1 g2 g3 g4
  repeat walk_at "ev"
  refine Clc.cl (F4.draw ok (n := n) (rm.to) (by decide) fun i H' K' h0 h1 F' e => ?_)
  have ow : ∀ {r1 r2 r3 : V}, ∀ b ∈ [((Str.ofString "name" : Str), r1), ("default", r2), ("some", r3)], Own (Cx.of G A (n + 59) rm (fnScope (top 26)) rfl q code f L) b.1 := bo3 (Or.inl (by kernel_rfl)) (Or.inr ⟨by kernel_rfl, by kernel_rfl⟩) (Or.inl (by kernel_rfl))
  rcases (by omega : i = 0 ∨ i = 1 ∨ i = 2) with rfl | rfl | rfl
  · refine Do.item (F'.ext _ _ (e _ _ g4)) (by decide) (r := .tup [.str "sc", .str "Zzzz", .ref l1]) rfl ?_
    exact ⟨_, _, rfl, rfl, ow, h H' K' _ _ _ l1 LC.c0 F' (e _ _ g1)⟩
  · refine Do.item (F'.ext _ _ (e _ _ g4)) (by decide) (r := .tup [.str "ccc", .int 0, .ref l2]) rfl ?_
    exact ⟨_, _, rfl, rfl, ow, h H' K' _ _ _ l2 LC.c1 F' (e _ _ g2)⟩
  · refine Do.item (F'.ext _ _ (e _ _ g4)) (by decide) (r := .tup [.str "zz", .none, .ref l3]) rfl ?_
    exact ⟨_, _, rfl, rfl, ow, h H' K' _ _ _ l3 LC.c2 F' (e _ _ g3)⟩
theorem lt2 (rm : Rm A (n + 59)) (F : Fs H D CL K) (hs : K sl = some (.list (sV ss))) (s1 : σ "deck" = some (.ref D)) (s2 : σ "name" = some (.str nm)) (s3 : σ "default" = some dflt.v) (s4 : σ "some" = some (.ref sl))
    (h : ∀ σ' H' K' x dm pu, LS a σ' H' K' D CL x dm sl pu nm dflt ss [] → K' dm = some (.sd []) → Qn σ' H') :
    Ex1 (Cx.of G A (n + 59) rm (fnScope (top 26)) rfl q code f L) (st 26 2) σ H Qn Qr := by
  refine Ex1.assignTS (names := ["data", "puts"]) ?_
  repeat walk_at "ev"
  refine F.do_ (da_make ok (n := n) (rm.to) fun x dm K1 d1 hdm E1 _ _ H1 F1 => ?_)
  repeat walk_at "ev"
  intro pu hpu
  have hpk : K1 pu = none ∧ pu ∉ [D, CL] := by
    refine ⟨?_, fun q => ?_⟩
    · cases e : K1 pu with
      | none => rfl
      | some o => rw [F1.ext _ _ e] at hpu; cases hpu
    · obtain ⟨o, e⟩ := F1.here pu q
      rw [hpu] at e; cases e
  have F2 : Gs (AH.put H1 pu (.list [])) D CL pu K1 [] := by
    obtain ⟨F2, k2⟩ := F1.put (o := .list []) hpu
    refine ⟨F2.dk, AH.put_self _ _ _, fun q => hpk.2 (by simp [q]), ?_⟩
    rw [← F1.eq]
    funext z
    unfold AH.minus AH.put
    by_cases q : z = pu
    · subst q
      rw [if_pos (by simp)]
      have := hpk.1
      rw [← F1.eq] at this
      unfold AH.minus at this
      exact this.symm
    · rw [if_neg q]
      by_cases q2 : z ∈ [D, CL]
      · rw [if_pos q2, if_pos (by simp at q2 ⊢; rcases q2 with q2 | q2 <;> simp [q2])]
      · rw [if_neg q2, if_neg (by simp at q2 ⊢; simp [q2, q])]
  repeat walk_at "ev"
  refine ⟨on2 (by walk_at "own") (by walk_at "own"), ?_⟩
  show Qn (Lo.put (Lo.put σ "puts" (.ref pu)) "data" (.ref x)) _
  exact h _ _ _ x dm pu ⟨F2, by walk_at "lo", by walk_at "lo", by walk_at "lo", by walk_at "lo", by walk_at "lo", by walk_at "lo", E1 _ _ hs, d1⟩ hdm
end
theorem cn_x : ([Str.ofString "Cn", Str.ofString "W", Str.ofString "N"].all fun x => (PyData.str x).canLay0 && (PyData.str x).showable && (PyData.str x).leavesShort 13 && decide ((PyData.str x).depth ≤ 0) && decide ((PyData.str x).weight ≤ 40)) = true := by kernel_rfl
theorem Nice.cn {x : Str} (hx : x ∈ [Str.ofString "Cn", Str.ofString "W", Str.ofString "N"]) : Nice 40 0 (.str x) := by
  have h := List.all_eq_true.mp cn_x x hx
  simp only [Bool.and_eq_true, decide_eq_true_eq] at h
  exact ⟨h.1.1.1.1, h.1.2, h.1.1.1.2, h.1.1.2, h.2⟩
theorem Nice.three {w dp : Nat} {x y z : PyData} (hx : Nice w dp x) (hy : Nice w dp y) (hz : Nice w dp z) : Nice (3 * (w + 1)) (dp + 1) (.list [x, y, z]) := Nice.list (k := 3) (fun d hd => by
  simp only [List.mem_cons, List.not_mem_nil, or_false] at hd
  rcases hd with rfl | rfl | rfl <;> assumption) (by simp)
theorem LS.extM {a σ H K H' K' D CL x dm sl pu nm dflt ss ps s} (R : LS a σ H K D CL x dm sl pu nm dflt ss ps) (F : Gs H' D CL pu K' (ps.map tv)) (e : ExtB dm K K') (hm : K dm = some (.sd s)) : LS a σ H' K' D CL x dm sl pu nm dflt ss ps :=
  ⟨F, R.s1, R.s2, R.s3, R.s4, R.s5, R.s6, e _ _ (fun q => by have := R.g1; rw [q, hm] at this; cases this) R.g1, R.da.extM e hm⟩
theorem LS.extA {a σ H K H' K' D CL x dm sl pu nm dflt ss ps b f} (R : LS a σ H K D CL x dm sl pu nm dflt ss ps) (F : Gs H' D CL pu K' (ps.map tv)) (e : ExtB b K K') (hb : K b = some (.att f 3)) : LS a σ H' K' D CL x dm sl pu nm dflt ss ps :=
  ⟨F, R.s1, R.s2, R.s3, R.s4, R.s5, R.s6, e _ _ (fun q => by have := R.g1; rw [q, hb] at this; cases this) R.g1, R.da.extA e hb⟩
/-- a drawn point, over any state of the deck -/
theorem Ev.pointW {C : Cx} {σ : Lo} {H : AH} {a : Ad} {D : Addr} {pos p1 p2 p3 p4 p5 p6 p7} {Q : V → AH → Prop} (W : AH → Prop) (ok : Ok C.G a) (hw : W H) (g1 : C.env.kindOf "_law_points" = some .globalImplicit) (g2 : C.env.kindOf "_law_draw" = some .globalImplicit) (g3 : C.env.kindOf "len" = some .globalImplicit)
    (hdraw : ∀ H, W H → ∀ Q : V → AH → Prop, (∀ (i : Int) H', 0 ≤ i → i < 12 → W H' → Q (.int i) H') → Clc C.G C.A (.ref a.draw) [.ref D, .int 12] H Q)
    (hd : ∀ Q : V → AH → Prop, Q (.ref D) H → Ev C (.Name "deck" p3) σ H Q) (h : ∀ c H', c ∈ points → W H' → Q (.int c) H') :
    Ev C (.Subscript (.Name "_law_points" p1) (.Call (.Name "_law_draw" p2) [.Name "deck" p3, .Call (.Name "len" p4) [.Name "_law_points" p5] [] p6] [] p7) pos) σ H Q := by
  refine Ev.sub ?_
  refine Ev.gl (Ok.toOk0 ok) g1 (by with_unfolding_all rfl) ?_
  refine Ev.call ?_
  refine Ev.gl (Ok.toOk0 ok) g2 (by with_unfolding_all rfl) ?_
  refine ⟨_, rfl, Fn.kp ok.draw, ?_⟩
  refine Es.cons (hd _ ?_)
  refine Es.cons ?_
  refine Ev.call ?_
  refine Ev.bi (Ok.toOk0 ok) g3 (by with_unfolding_all rfl) ?_
  refine ⟨_, rfl, Kp.builtin, ?_⟩
  refine Es.cons ?_
  refine Ev.gl (Ok.toOk0 ok) g1 (by with_unfolding_all rfl) ?_
  refine Es.nil ?_
  refine Cl.lenT (by decide) ?_
  refine Es.nil ?_
  refine Clc.cl (hdraw H hw _ fun i H' h0 h1 w => ?_)
  obtain ⟨c, hc, hm⟩ := points_at h0 h1
  exact Do.itemT h0 (by omega) hc (h c H' hm w)
/-- two drawn points -/
theorem Ev.twoPoints {C : Cx} {σ : Lo} {H : AH} {a : Ad} {D : Addr} {scope : Scope} {target iter pos pos' p1 p2 p3 p4 p5 p6 p7} {Q : V → AH → Prop} (W : AH → Prop) (ok : Ok C.G a) (cok : CompOk C scope) (hw : W H)
    (hdraw : ∀ H, W H → ∀ Q : V → AH → Prop, (∀ (i : Int) H', 0 ≤ i → i < 12 → W H' → Q (.int i) H') → Clc C.G C.A (.ref a.draw) [.ref D, .int 12] H Q) (hput : ∀ (H : AH) b o, W H → H b = Option.none → W (AH.put H b o))
    (hit : ∀ Q : List V → (AH → Prop) → AH → Prop, (∀ x y, Q [x, y] (fun _ => True) H) → Ei C target iter σ H Q)
    (htg : ∀ x, ∃ bs, tgBinds target x = some bs ∧ (∀ b ∈ bs, scope.names.lookup b.1 = some .local) ∧ ∀ L (H' : AH) (Q : V → AH → Prop), Q (.ref D) H' → Ev (C.comp scope cok L) (.Name "deck" p3) ((compLo C scope σ).puts bs) H' Q)
    (g1 : ∀ L, (C.comp scope cok L).env.kindOf "_law_points" = some .globalImplicit) (g2 : ∀ L, (C.comp scope cok L).env.kindOf "_law_draw" = some .globalImplicit) (g3 : ∀ L, (C.comp scope cok L).env.kindOf "len" = some .globalImplicit)
    (h : ∀ b c d H', c ∈ points → d ∈ points → W H' → H' b = some (.list [.int c, .int d]) → Q (.ref b) H')
    (hs : ∀ x, foldedSetIterable iter C.env x = pure x := by intro _; with_unfolding_all rfl) :
    Ev C (.ListComp (.Subscript (.Name "_law_points" p1) (.Call (.Name "_law_draw" p2) [.Name "deck" p3, .Call (.Name "len" p4) [.Name "_law_points" p5] [] p6] [] p7) pos) [⟨target, iter, [], 0⟩] scope pos') σ H Q := by
  refine Ev.comp cok (hit _ fun x y => ?_) hs
  refine ⟨fun i out H' => W H' ∧ out.length = i ∧ i ≤ 2 ∧ ∀ v ∈ out, ∃ c, c ∈ points ∧ v = .int c, ⟨hw, rfl, by decide, fun v hv => by cases hv⟩, ?_, ?_, ?_⟩
  · rintro i out H' ⟨_, e, h2, _⟩
    exact ⟨trivial, by rw [e]; omega⟩
  · rintro L i z out H' hz ⟨hw, hl, h2, hv⟩
    obtain ⟨bs, t1, t2, t3⟩ := htg z
    refine ⟨bs, t1, t2, ?_⟩
    show _ ∧ _
    refine ⟨fun _ => ?_, fun e => (by cases e)⟩
    refine Ev.pointW W ok hw (g1 L) (g2 L) (g3 L) hdraw (fun Q q => t3 L H' Q q) fun c H2 hc w2 => ?_
    have hi := (List.getElem?_eq_some_iff.mp hz).1
    refine ⟨w2, by rw [List.length_append, hl]; rfl, hi, fun v hm => ?_⟩
    rcases List.mem_append.mp hm with hm | hm
    · exact hv v hm
    · rw [List.mem_singleton] at hm; exact ⟨c, hc, hm⟩
  · rintro out H' ⟨hw, hl, _, hv⟩ b hb
    match out, hl with
    | [u, w], _ =>
      obtain ⟨c, hc, rfl⟩ := hv u (by simp)
      obtain ⟨d, hd, rfl⟩ := hv w (by simp)
      exact h b c d _ hc hd (hput _ _ _ hw hb) (AH.put_self _ _ _)
section
variable {G : Gl} {a : Ad} (ok : Ok G a) {A : Around} {H K : AH} {σ : Lo} {Qn : Lo → AH → Prop} {Qr : V → AH → Prop} {n : Nat} {q : Str} {code : Value} {f L D CL x dm sl pu : Addr} {nm : Str} {dflt : S} {ss : List S} {ps : List (Int × Int × S)}
include ok
theorem lt3 (rm : Rm A (n + 59)) (R : LS a σ H K D CL x dm sl pu nm dflt ss []) (lc : LC nm dflt ss) (hm : K dm = some (.sd [])) (h : ∀ H' K', LS a σ H' K' D CL x dm sl pu nm dflt ss [] → K' dm = some (.sd []) → Qn σ H') :
    Ex1 (Cx.of G A (n + 59) rm (fnScope (top 26)) rfl q code f L) (st 26 3) σ H Qn Qr := by
  obtain ⟨F, s1, s2, s3, s4, s5, s6, g1, da⟩ := id R
  have da' := da.ext F.ext
  have hm' := F.ext _ _ hm
  have nice : Nice 123 1 (.list [dflt.d, .str "Cn", .none]) := Nice.three (Nice.us lc.ud) (Nice.cn (by simp)) Nice.none
  refine Ex1.if_ ?_
  refine Et.compare ?_
  refine Ev.call ?_
  repeat walk_at "ev"
  refine ⟨_, _, _, DAt.gm ok da' (by decide) rfl, ok.da2.kp, ?_⟩
  repeat walk_at "ev"
  refine Clc.cl (da_getD ok (n := n) (rm.to) da' hm' rfl ?_)
  rw [lc.dk]
  repeat walk_at "ev"
  refine ⟨_, _, _, DAt.gm ok da' (by decide) rfl, ok.da2.kp, ?_⟩
  repeat walk_at "ev"
  refine Clc.cl (da_getD ok (n := n) (rm.to) da' hm' rfl ?_)
  rw [dk_get.2.2.2.1, Option.getD_some]
  repeat walk_at "ev"
  refine ⟨_, _, _, DAt.gm ok da' (by decide) rfl, ok.da2.kp, ?_⟩
  repeat walk_at "ev"
  refine Clc.cl (da_getD ok (n := n) (rm.to) da' hm' rfl ?_)
  rw [dk_get.2.2.2.2.1, Option.getD_none]
  repeat walk_at "ev"
  intro b1 hb1
  repeat walk_at "ev"
  refine Cl.repr (n := n) (d := .list [dflt.d, .str "Cn", .none]) (rm.to) (RD.list (AH.put_self _ _ _) (.cons dflt.rd (.cons (.str _) (.cons .none .nil)))) (nice.shaped (by decide)) nice.sho (nice.len (by decide)) ?_
  refine Ev.call ?_
  repeat walk_at "ev"
  intro b2 hb2
  repeat walk_at "ev"
  refine Cl.repr (n := n) (d := .list [dflt.d, .str "Cn", .none]) (rm.to) (RD.list (AH.put_self _ _ _) (.cons dflt.rd (.cons (.str _) (.cons .none .nil)))) (nice.shaped (by decide)) nice.sho (nice.len (by decide)) ?_
  repeat walk_at "ev"
  rw [bne_self_eq_false]
  refine ⟨fun e => (by cases e), fun _ => ?_⟩
  have E := (Ext.put (o := .list [dflt.v, .str "Cn", .none]) hb1).trans (Ext.put (o := .list [dflt.v, .str "Cn", .none]) hb2)
  exact Ex.nil (h _ _ (R.grow E) ((F.grow E).2 _ _ hm))
theorem lt4 (rm : Rm A (n + 59)) (R : LS a σ H K D CL x dm sl pu nm dflt ss []) (hm : K dm = some (.sd [])) (h : ∀ H' K' m1 d1, LS a σ H' K' D CL x dm sl pu nm dflt ss [] → K' dm = some (.sd [("ea", .ref m1)]) → MA a K' m1 d1 → Qn σ H') :
    Ex1 (Cx.of G A (n + 59) rm (fnScope (top 26)) rfl q code f L) (st 26 4) σ H Qn Qr := by
  obtain ⟨F, s1, s2, s3, s4, s5, s6, g1, da⟩ := id R
  refine Ex1.expr ?_
  refine Ev.meth1 ?_
  repeat walk_at "ev"
  refine ⟨_, _, _, DAt.gm ok (da.ext F.ext) (by decide) rfl, ok.da1.kp, ?_⟩
  repeat walk_at "ev"
  refine Clc.cl (F.call (da_putNew ok (n := n) (dflt := .str "N") (s := .str "W") (rm.to) da hm (by simp) rfl (by rw [dk_get.2.2.2.2.2]; rfl) (by decide) (by decide) fun mx dx K' l' m hm' E _ _ rw' hl H' F' => ⟨rfl, ?_⟩))
  exact h H' K' mx dx (R.extM F' E hm) hm' ⟨l', m, rw', hl⟩
end
noncomputable def PsOk (ss : List S) (ps : List (Int × Int × S)) : Prop := ∀ p ∈ ps, p.1 ∈ points ∧ p.2.1 ∈ points ∧ p.2.2 ∈ ss
theorem small_one {n : Nat} (h : n ≤ 5) : Builtin.Range.small 0 n 1 = true ∧ Builtin.Range.rangeSize 0 n 1 = n := by
  rcases (by omega : n = 0 ∨ n = 1 ∨ n = 2 ∨ n = 3 ∨ n = 4 ∨ n = 5) with rfl | rfl | rfl | rfl | rfl | rfl <;> exact ⟨by decide, by decide⟩
theorem kv_other {m1 : V} {nm : Str} {r : V} (h : nm ≠ "ea") : sto [((Str.ofString "ea" : Str), m1)] nm r = [(Str.ofString "ea", m1), (nm, r)] := by
  unfold sto
  have : ¬ (Str.ofString "ea" : Str) = nm := fun e => h e.symm
  simp [this]
theorem kv_none {m1 : V} {nm : Str} (h : nm ≠ "ea") : at? [((Str.ofString "ea" : Str), m1)] nm = none := by
  unfold at?
  have : ¬ (Str.ofString "ea" : Str) = nm := fun e => h e.symm
  simp [this]
theorem kv_nm {m1 m2 : V} {nm : Str} (h : nm ≠ "ea") : at? [((Str.ofString "ea" : Str), m1), (nm, m2)] nm = some m2 := by
  unfold at?
  have : ¬ (Str.ofString "ea" : Str) = nm := fun e => h e.symm
  simp [this]
theorem kv_ea {m1 m2 : V} {nm : Str} : at? ([((Str.ofString "ea" : Str), m1), (nm, m2)] : List (Str × V)) (Str.ofString "ea") = some m1 := rfl
theorem kv_gc {m1 m2 : V} {nm : Str} (h : nm ≠ "gc") : at? ([((Str.ofString "ea" : Str), m1), (nm, m2)] : List (Str × V)) (Str.ofString "gc") = none := by
  unfold at?
  have h1 : ¬ nm = Str.ofString "gc" := h
  have h2 : ¬ (Str.ofString "ea" : Str) = Str.ofString "gc" := by decide
  simp [h1, h2]
/-- between the turns of law's first loop -/
noncomputable def LI (a : Ad) (D CL x dm sl pu m1 d1 : Addr) (nm : Str) (dflt : S) (ss : List S) (t : Nat) (σ : Lo) (H : AH) : Prop :=
  ∃ K ps, LS a σ H K D CL x dm sl pu nm dflt ss ps ∧ ps.length = t ∧ PsOk ss ps ∧ ((t = 0 ∧ K dm = some (.sd [("ea", .ref m1)]) ∧ MA a K m1 d1) ∨ ∃ m2 d2 l2, MC a K dm m1 d1 m2 d2 nm dflt ps l2)
section
variable {G : Gl} {a : Ad} (ok : Ok G a) {A : Around} {H K : AH} {σ : Lo} {Qn : Lo → AH → Prop} {Qr : V → AH → Prop} {n : Nat} {q : Str} {code : Value} {f L D CL x dm sl pu m1 d1 : Addr} {nm : Str} {dflt : S} {ss : List S} {ps : List (Int × Int × S)}
include ok
set_option maxHeartbeats 1000000 in
theorem lt5 (rm : Rm A (n + 59)) (R : LS a σ H K D CL x dm sl pu nm dflt ss []) (lc : LC nm dflt ss) (hm : K dm = some (.sd [("ea", .ref m1)])) (ma : MA a K m1 d1)
    (h : ∀ σ' H' K' ps m2 d2 l2, LS a σ' H' K' D CL x dm sl pu nm dflt ss ps → ps.length ≤ 5 → PsOk ss ps → MC a K' dm m1 d1 m2 d2 nm dflt ps l2 → Qn σ' H') :
    Ex1 (Cx.of G A (n + 59) rm (fnScope (top 26)) rfl q code f L) (st 26 5) σ H Qn Qr := by
  have s1 := R.s1
  refine Ex1.for_ ?_
  refine Ei.range ?_
  repeat walk_at "ev"
  refine Clc.cl (R.F.draw ok (n := n) (rm.to) (by decide) fun i H1 K1 i0 i5 F1 e1 => ?_)
  repeat walk_at "ev"
  obtain ⟨k, rfl⟩ : ∃ k : Nat, i = k := ⟨i.toNat, by omega⟩
  have ek : (1 : Int) + (k : Int) = ((k + 1 : Nat) : Int) := by omega
  rw [ek]
  refine Cl.range1 fun r t u v hr => ?_
  obtain ⟨sm, sz⟩ := small_one (n := k + 1) (by omega)
  refine ⟨r, H1, 0, _, 1, t, u, v, k + 1, rfl, rfl, hr, sm, sz, LI a D CL x dm sl pu m1 d1 nm dflt ss, ⟨K1, [], R.ext F1 e1, rfl, (fun p hp => by cases hp), .inl ⟨rfl, e1 _ _ hm, ma.ext e1⟩⟩, fun _ _ _ _ => trivial, ?_, ?_⟩
  rotate_left
  · rintro σ' H' ⟨K', ps, R', hl, po, h0 | ⟨m2, d2, l2, mc⟩⟩
    · have := h0.1; simp [rangeV] at this
    · refine h σ' H' K' ps m2 d2 l2 R' ?_ po mc
      rw [hl]; simp [rangeV]; omega
  clear R F1 e1 hm ma h s1
  rintro j z σ' H' hz ⟨K', ps, R, hl, po, hmc⟩
  have hj : j < k + 1 := by have := (List.getElem?_eq_some_iff.mp hz).1; simpa [rangeV] using this
  clear hz sm sz ek
  refine As.name (by walk_at "own") ?_
  replace R := R.set (y := "turn") (r := z) (by decide)
  generalize (Lo.put σ' "turn" z) = σ1 at *
  have s1 := R.s1
  refine Ex.cons ?_
  refine Ex1.assignL ?_
  refine Ev.twoPoints (D := D) (fun H2 => ∃ K2, Gs H2 D CL pu K2 (ps.map tv) ∧ Ext K' K2) ok (CompOk.of (by kernel_rfl)) ⟨K', R.F, Ext.refl _⟩ ?_ ?_ ?_ ?_ (fun L => by kernel_rfl) (fun L => by kernel_rfl) (fun L => by kernel_rfl) ?_
  · rintro H2 ⟨K2, F2, e2⟩ Q hq
    exact F2.draw ok (n := n) (rm.to) (by decide) fun i H3 K3 i0 i1 F3 e3 => hq i H3 i0 i1 ⟨K3, F3, e2.trans e3⟩
  · rintro H2 b o ⟨K2, F2, e2⟩ hb
    obtain ⟨F3, kb⟩ := F2.put (o := o) hb
    exact ⟨_, F3, e2.trans (Ext.put kb)⟩
  · intro Q hq
    refine Ei.range ?_
    repeat walk_at "ev"
    refine Cl.range1 fun r t u v hr => ?_
    exact ⟨r, _, 0, _, 1, t, u, v, 2, rfl, rfl, hr, by decide, by decide, hq _ _⟩
  · intro y
    exact ⟨[("k", y)], rfl, bl1 rfl, fun L H' Q hq => Ev.cell (by kernel_rfl) (comp_lo1 (by kernel_rfl) (by decide) s1) hq⟩
  rintro b c d H2 hc hd ⟨K2, F2, e2⟩ hb
  refine ⟨b, _, _, _, rfl, hb, rfl, bo2 (by walk_at "own") (by walk_at "own"), ?_⟩
  show Ex _ _ (Lo.put (Lo.put σ1 "first" (.int c)) "last" (.int d)) _ _ _
  replace R := ((R.ext F2 e2).set (y := "first") (r := .int c) (by decide)).set (y := "last") (r := .int d) (by decide)
  have s7 : (Lo.put (Lo.put σ1 "first" (.int c)) "last" (.int d)) "first" = some (.int c) := (Lo.put_ne _ _ (by decide)).trans (Lo.put_self _ _ _)
  have s8 : (Lo.put (Lo.put σ1 "first" (.int c)) "last" (.int d)) "last" = some (.int d) := Lo.put_self _ _ _
  have hmc2 : (j = 0 ∧ K2 dm = some (.sd [("ea", .ref m1)]) ∧ MA a K2 m1 d1) ∨ ∃ m2 d2 l2, MC a K2 dm m1 d1 m2 d2 nm dflt ps l2 := by
    rcases hmc with ⟨j0, h1, h2⟩ | ⟨m2, d2, l2, mc⟩
    · exact .inl ⟨j0, e2 _ _ h1, h2.ext e2⟩
    · exact .inr ⟨m2, d2, l2, mc.ext e2⟩
  clear hmc s1 F2 hb e2
  generalize (Lo.put (Lo.put σ1 "first" (.int c)) "last" (.int d)) = σ2 at *
  obtain ⟨F2, s1, s2, s3, s4, s5, s6, g1, da⟩ := id R
  have lss := lc.len
  have lsv : (sV ss).length = ss.length := by simp [sV]
  refine Ex.cons ?_
  refine Ex1.expr ?_
  refine Ev.meth1 ?_
  repeat walk_at "ev"
  refine ⟨_, _, _, Gm.append F2.pl, Kp.builtin, ?_⟩
  repeat walk_at "ev"
  refine Do.len (F2.ext _ _ g1) ?_
  repeat walk_at "ev"
  refine Clc.cl (F2.draw ok (n := n) (rm.to) (by omega) fun i H3 K3 h0 h1 F3 e3 => ?_)
  obtain ⟨s, hs⟩ : ∃ s, ss[i.toNat]? = some s := ⟨_, List.getElem?_eq_getElem (show i.toNat < ss.length by omega)⟩
  refine Do.item (F3.ext _ _ (e3 _ _ g1)) h0 (r := s.v) (by unfold sV; rw [List.getElem?_map, hs]; rfl) ?_
  repeat walk_at "ev"
  refine Cl.append F3.pl (by rw [List.length_map]; omega) ?_
  refine ⟨rfl, ?_⟩
  have em : ps.map tv ++ [.tup [.int c, .int d, s.v]] = (ps ++ [(c, d, s)]).map tv := by rw [List.map_append]; rfl
  have F4 : Gs (AH.put H3 pu (.list (ps.map tv ++ [.tup [.int c, .int d, s.v]]))) D CL pu K3 ((ps ++ [(c, d, s)]).map tv) := by rw [em]; exact F3.app
  have pl4 : (AH.put H3 pu (.list (ps.map tv ++ [.tup [.int c, .int d, s.v]]))) pu = some (.list (ps.map tv ++ [.tup [.int c, .int d, s.v]])) := AH.put_self _ _ _
  generalize (AH.put H3 pu (.list (ps.map tv ++ [.tup [.int c, .int d, s.v]]))) = H4 at *
  have R4 : LS a σ2 H4 K3 D CL x dm sl pu nm dflt ss (ps ++ [(c, d, s)]) := ⟨F4, s1, s2, s3, s4, s5, s6, e3 _ _ g1, da.ext e3⟩
  have po4 : PsOk ss (ps ++ [(c, d, s)]) := fun p hp => by
    rcases List.mem_append.mp hp with hp | hp
    · exact po p hp
    · rw [List.mem_singleton] at hp; subst hp; exact ⟨hc, hd, List.mem_of_getElem? hs⟩
  have hmc4 : (j = 0 ∧ K3 dm = some (.sd [("ea", .ref m1)]) ∧ MA a K3 m1 d1) ∨ ∃ m2 d2 l2, MC a K3 dm m1 d1 m2 d2 nm dflt ps l2 := by
    rcases hmc2 with ⟨j0, h1, h2⟩ | ⟨m2, d2, l2, mc⟩
    · exact .inl ⟨j0, e3 _ _ h1, h2.ext e3⟩
    · exact .inr ⟨m2, d2, l2, mc.ext e3⟩
  clear hmc2 F2 F3 g1 da em e3 R po
  have pc := points_le hc
  have pd := points_le hd
  refine Ex.cons ?_
  refine Ex1.expr ?_
  refine Ev.meth1 ?_
  repeat walk_at "ev"
  refine ⟨_, _, _, DAt.gm ok (R4.da.ext F4.ext) (by decide) rfl, ok.da1.kp, ?_⟩
  repeat walk_at "ev"
  rcases hmc4 with ⟨j0, h1, l1, ma, ma2⟩ | ⟨m2, d2, l2, mc⟩
  · obtain rfl : ps = [] := List.eq_nil_of_length_eq_zero (by omega)
    refine Clc.cl (F4.call (da_putNew ok (n := n) (dflt := dflt) (s := s) (rm.to) R4.da h1 (by simp) (kv_none lc.ne.1) lc.dk pc.1 pd.2 fun mx dx K5 l' m hm' E hmx hdx rw' hl' H5 F5 => ⟨rfl, Ex.nil ?_⟩))
    rw [kv_other lc.ne.1] at hm'
    refine ⟨K5, _, R4.extM F5 E h1, by simp at hl ⊢; omega, po4, .inr ⟨mx, dx, l', hm', ⟨l1, ma.extM E h1, ma2⟩, m, ?_, by simp; omega, fun q => ?_⟩⟩
    · rw [tolds_snoc]; exact rw'
    · obtain ⟨_, bs, bv, hb, _⟩ := ma
      rw [q, hdx] at hb; cases hb
  · have hb := mc.m2
    obtain ⟨_, bs, bv, hb, _⟩ := hb
    obtain ⟨l1, ma, ma2⟩ := mc.m1
    have lm := mc.len
    refine Clc.cl (F4.call (da_put ok (n := n) (dflt := dflt) (s := s) (rm.to) R4.da mc.dm (kv_nm lc.ne.1) mc.m2 mc.rw2 pc.1 pd.2 (by omega) fun K5 l' m E rw' hl' H5 F5 => ⟨rfl, Ex.nil ?_⟩))
    refine ⟨K5, _, R4.extA F5 E hb, by simp; omega, po4, .inr ⟨m2, d2, l', E _ _ (fun q => by have := mc.dm; rw [q, hb] at this; cases this) mc.dm, ⟨l1, ma.extA E hb mc.ne, ma2⟩, m, ?_, by simp; omega, mc.ne⟩⟩
    rw [tolds_snoc]; exact rw'
end
/-- the state of law behind its pieces -/
structure LP (a : Ad) (σ : Lo) (H K : AH) (D CL x dm sl pu m1 d1 m2 d2 pc : Addr) (nm : Str) (dflt : S) (ss : List S) (ps : List (Int × Int × S)) (l : List (Int × S)) : Prop where
  ls : LS a σ H K D CL x dm sl pu nm dflt ss ps
  mc : MC a K dm m1 d1 m2 d2 nm dflt ps l
  sp : σ "pieces" = some (.ref pc)
  gp : K pc = some (.list ((rowsOf l).map tv))
  us : ∀ q ∈ l, q.2 ∈ US
  len : l.length ≤ 11
theorem LP.ext {a σ H K H' K' D CL x dm sl pu m1 d1 m2 d2 pc nm dflt ss ps l} (R : LP a σ H K D CL x dm sl pu m1 d1 m2 d2 pc nm dflt ss ps l) (F : Gs H' D CL pu K' (ps.map tv)) (e : Ext K K') : LP a σ H' K' D CL x dm sl pu m1 d1 m2 d2 pc nm dflt ss ps l :=
  ⟨R.ls.ext F e, R.mc.ext e, R.sp, e _ _ R.gp, R.us, R.len⟩
theorem LP.grow {a σ H K H' D CL x dm sl pu m1 d1 m2 d2 pc nm dflt ss ps l} (R : LP a σ H K D CL x dm sl pu m1 d1 m2 d2 pc nm dflt ss ps l) (e : Ext H H') : LP a σ H' (H'.minus [D, CL, pu]) D CL x dm sl pu m1 d1 m2 d2 pc nm dflt ss ps l := R.ext (R.ls.F.grow e).1 (R.ls.F.grow e).2
theorem LP.set {a σ H K D CL x dm sl pu m1 d1 m2 d2 pc nm dflt ss ps l} (R : LP a σ H K D CL x dm sl pu m1 d1 m2 d2 pc nm dflt ss ps l) {y : Str} {r : V} (hy : y ∉ [("deck" : Str), "name", "default", "some", "data", "puts"]) (hp : y ≠ "pieces") : LP a (Lo.put σ y r) H K D CL x dm sl pu m1 d1 m2 d2 pc nm dflt ss ps l :=
  ⟨R.ls.set hy, R.mc, (Lo.put_ne _ _ fun e => hp e.symm).trans R.sp, R.gp, R.us, R.len⟩
section
variable {G : Gl} {a : Ad} (ok : Ok G a) {A : Around} {H K : AH} {σ : Lo} {Qn : Lo → AH → Prop} {Qr : V → AH → Prop} {n : Nat} {q : Str} {code : Value} {f L D CL x dm sl pu m1 d1 m2 d2 pc : Addr} {nm : Str} {dflt : S} {ss : List S} {ps : List (Int × Int × S)} {l : List (Int × S)}
include ok
theorem lt6 (rm : Rm A (n + 59)) (R : LS a σ H K D CL x dm sl pu nm dflt ss ps) (lc : LC nm dflt ss) (hl : ps.length ≤ 5) (po : PsOk ss ps) (mc : MC a K dm m1 d1 m2 d2 nm dflt ps l)
    (h : ∀ σ' H' K' pc, LP a σ' H' K' D CL x dm sl pu m1 d1 m2 d2 pc nm dflt ss ps l → Qn σ' H') :
    Ex1 (Cx.of G A (n + 59) rm (fnScope (top 26)) rfl q code f L) (st 26 6) σ H Qn Qr := by
  obtain ⟨F, s1, s2, s3, s4, s5, s6, g1, da⟩ := id R
  refine Ex1.assign (by walk_at "own") ?_
  repeat walk_at "ev"
  refine Clc.cl (c_pieces ok (n := n) (rm.to) F.pl (by omega) (fun p hp => ⟨(points_le (po p hp).1).1, (points_le (po p hp).2.1).2, lc.us _ (po p hp).2.2⟩) lc.ud fun pc l' H' rw' hl' us hn E hpc => ?_)
  obtain rfl := mc.rw2.unique rw'
  obtain ⟨F', e⟩ := F.grow E
  exact h _ H' _ pc ⟨(R.grow E).set (by decide), mc.ext e, Lo.put_self _ _ _, F.new hn hpc, us, by omega⟩
theorem lt7 (rm : Rm A (n + 59)) (R : LP a σ H K D CL x dm sl pu m1 d1 m2 d2 pc nm dflt ss ps l) (lc : LC nm dflt ss)
    (h : ∀ σ' H' K', LP a σ' H' K' D CL x dm sl pu m1 d1 m2 d2 pc nm dflt ss ps l → Qn σ' H') :
    Ex1 (Cx.of G A (n + 59) rm (fnScope (top 26)) rfl q code f L) (st 26 7) σ H Qn Qr := by
  have sp := R.sp
  refine Ex1.for_ ?_
  refine Ei.list ?_
  repeat walk_at "ev"
  have hg := R.ls.F.ext _ _ R.gp
  refine ⟨pc, _, rfl, hg, fun _ σ' H' => ∃ K', LP a σ' H' K' D CL x dm sl pu m1 d1 m2 d2 pc nm dflt ss ps l, ⟨K, R⟩, ?_, ?_, ?_⟩
  · rintro i σ' H' ⟨K', R'⟩; exact R'.ls.F.ext _ _ R'.gp
  rotate_left
  · rintro σ' H' ⟨K', R'⟩; exact h σ' H' K' R'
  clear hg sp h R
  rintro i z σ' H' hz ⟨K', R⟩
  obtain ⟨r, hr, rfl⟩ := List.mem_map.mp (List.mem_of_getElem? hz)
  clear hz
  have rw2 := R.mc.rw2
  have b := rw2.rows.1 r hr
  have e1 := rw2.at hr (Int.le_refl _) b.1
  have e2 := rw2.at hr b.1 (Int.le_refl _)
  have hu : r.2.2 ∈ US := by rw [rowsOf_to] at hr; exact tL_us R.us _ r hr
  have nice : Nice 82 1 (.list [r.2.2.d, r.2.2.d]) := Nice.two (Nice.us hu) (Nice.us hu)
  refine As.tg rfl (bo3 (by walk_at "own") (by walk_at "own") (by walk_at "own")) ?_
  show Ex _ _ (Lo.put (Lo.put (Lo.put σ' "first" (.int r.1)) "last" (.int r.2.1)) "value" r.2.2.v) _ _ _
  have R1 := ((R.set (y := "first") (r := .int r.1) (by decide) (by decide)).set (y := "last") (r := .int r.2.1) (by decide) (by decide)).set (y := "value") (r := r.2.2.v) (by decide) (by decide)
  have s7 : (Lo.put (Lo.put (Lo.put σ' "first" (.int r.1)) "last" (.int r.2.1)) "value" r.2.2.v) "first" = some (.int r.1) := (Lo.put_ne _ _ (by decide)).trans ((Lo.put_ne _ _ (by decide)).trans (Lo.put_self _ _ _))
  have s8 : (Lo.put (Lo.put (Lo.put σ' "first" (.int r.1)) "last" (.int r.2.1)) "value" r.2.2.v) "last" = some (.int r.2.1) := (Lo.put_ne _ _ (by decide)).trans (Lo.put_self _ _ _)
  have s9 : (Lo.put (Lo.put (Lo.put σ' "first" (.int r.1)) "last" (.int r.2.1)) "value" r.2.2.v) "value" = some r.2.2.v := Lo.put_self _ _ _
  generalize (Lo.put (Lo.put (Lo.put σ' "first" (.int r.1)) "last" (.int r.2.1)) "value" r.2.2.v) = σ2 at *
  obtain ⟨F, s1, s2, s3, s4, s5, s6, g1, da⟩ := R1.ls
  have da' := da.ext F.ext
  have hm' := F.ext _ _ R1.mc.dm
  have m2' := (R1.mc.m2.ext F.ext).map
  refine Ex.cons ?_
  refine Ex1.if_ ?_
  refine Et.compare ?_
  refine Ev.call ?_
  repeat walk_at "ev"
  refine ⟨_, _, _, DAt.gm ok da' (by decide) rfl, ok.da2.kp, ?_⟩
  repeat walk_at "ev"
  refine Clc.cl (da_get ok (n := n) (rm.to) da' hm' (kv_nm lc.ne.1) m2' rw2 (by omega) (by omega) ?_)
  rw [e1]
  repeat walk_at "ev"
  refine ⟨_, _, _, DAt.gm ok da' (by decide) rfl, ok.da2.kp, ?_⟩
  repeat walk_at "ev"
  refine Clc.cl (da_get ok (n := n) (rm.to) da' hm' (kv_nm lc.ne.1) m2' rw2 (by omega) (by omega) ?_)
  rw [e2]
  repeat walk_at "ev"
  intro b1 hb1
  repeat walk_at "ev"
  refine Cl.repr (n := n) (d := .list [r.2.2.d, r.2.2.d]) (rm.to) (RD.list (AH.put_self _ _ _) (.cons r.2.2.rd (.cons r.2.2.rd .nil))) (nice.shaped (by decide)) nice.sho (nice.len (by decide)) ?_
  refine Ev.call ?_
  repeat walk_at "ev"
  intro b2 hb2
  repeat walk_at "ev"
  refine Cl.repr (n := n) (d := .list [r.2.2.d, r.2.2.d]) (rm.to) (RD.list (AH.put_self _ _ _) (.cons r.2.2.rd (.cons r.2.2.rd .nil))) (nice.shaped (by decide)) nice.sho (nice.len (by decide)) ?_
  repeat walk_at "ev"
  rw [bne_self_eq_false]
  refine ⟨fun e => (by cases e), fun _ => ?_⟩
  exact Ex.nil (Ex.nil ⟨_, R1.grow ((Ext.put hb1).trans (Ext.put hb2))⟩)
theorem lt8 (rm : Rm A (n + 59)) (R : LP a σ H K D CL x dm sl pu m1 d1 m2 d2 pc nm dflt ss ps l) (lc : LC nm dflt ss)
    (h : ∀ du H' K', LP a (Lo.put σ "due" (.ref du)) H' K' D CL x dm sl pu m1 d1 m2 d2 pc nm dflt ss ps l → H' du = some (.list (((rowsOf l).filter fun r => decide (r.2.2 ≠ dflt)).map tv)) → Qn (Lo.put σ "due" (.ref du)) H') :
    Ex1 (Cx.of G A (n + 59) rm (fnScope (top 26)) rfl q code f L) (st 26 8) σ H Qn Qr := by
  have sp := R.sp
  have s3 := R.ls.s3
  have hg := R.ls.F.ext _ _ R.gp
  have lo := R.len
  refine Ex1.assignComp (CompOk.of (by kernel_rfl)) (by walk_at "own") ?_ (by kernel_rfl)
  refine Co.pure ?_
  refine Ei.list ?_
  repeat walk_at "ev"
  obtain ⟨f, hf, hfm⟩ := fm_of tv tv_inj (fun r => decide (r.2.2 ≠ dflt)) tv
  refine ⟨pc, _, rfl, hg, f, hg, by rw [List.length_map, rowsOf_len]; omega, fun L w hw => ?_, ?_⟩
  · obtain ⟨r, hr, rfl⟩ := List.mem_map.mp hw
    have hu : r.2.2 ∈ US := by rw [rowsOf_to] at hr; exact tL_us R.us _ r hr
    refine ⟨[("piece", .tup [.int r.1, .int r.2.1, r.2.2.v])], rfl, bl1 rfl, ?_⟩
    show Et _ _ _ _ _
    repeat walk_at "ev"
    refine Cl.reprUS (n := n) (rm.to) hu ?_
    repeat walk_at "ev"
    refine Cl.reprUS (n := n) (rm.to) lc.ud ?_
    repeat walk_at "ev"
    have e0 : (r.2.2.d.shown != dflt.d.shown) = !decide (r.2.2 = dflt) := by rw [← US_shown hu lc.ud]; rfl
    rw [e0]
    refine ⟨fun e => ?_, fun e => ?_⟩
    · have e : r.2.2 ≠ dflt := by simpa using e
      repeat walk_at "ev"
      rw [hf, if_pos (by simpa using e)]; rfl
    · have e : r.2.2 = dflt := by simpa using e
      rw [hf, if_neg (by simpa using e)]
  rw [hfm]
  intro du hdu
  exact h du _ _ ((R.grow (Ext.put hdu)).set (by decide) (by decide)) (AH.put_self _ _ _)
end
section
variable {G : Gl} {a : Ad} (ok : Ok G a) {A : Around} {H K : AH} {σ : Lo} {Qn : Lo → AH → Prop} {Qr : V → AH → Prop} {n : Nat} {q : Str} {code : Value} {f L D CL x dm sl pu m1 d1 m2 d2 pc : Addr} {nm : Str} {dflt : S} {ss : List S} {ps : List (Int × Int × S)} {l : List (Int × S)}
include ok
theorem lt9 (rm : Rm A (n + 59)) (R : LP a σ H K D CL x dm sl pu m1 d1 m2 d2 pc nm dflt ss ps l) (lc : LC nm dflt ss) {du : Addr} (s9 : σ "due" = some (.ref du)) (g9 : H du = some (.list (((rowsOf l).filter fun r => decide (r.2.2 ≠ dflt)).map tv)))
    (h : ∀ H' K', LP a σ H' K' D CL x dm sl pu m1 d1 m2 d2 pc nm dflt ss ps l → Qn σ H') :
    Ex1 (Cx.of G A (n + 59) rm (fnScope (top 26)) rfl q code f L) (st 26 9) σ H Qn Qr := by
  obtain ⟨F, s1, s2, s3, s4, s5, s6, g1, da⟩ := R.ls
  have lo := R.len
  have rw2 := R.mc.rw2
  have da' := da.ext F.ext
  have hm' := F.ext _ _ R.mc.dm
  have m2' := (R.mc.m2.ext F.ext).map
  have nice : Nice 7936 2 (tL ((rowsOf l).filter fun r => decide (r.2.2 ≠ dflt))) := by
    refine tL_nice (fun r hr => ?_) (Nat.le_trans (List.length_filter_le _ _) (by rw [rowsOf_len]; omega))
    have hr := (List.mem_filter.mp hr).1
    have b := rw2.rows.1 r hr
    exact ⟨by omega, by omega, by rw [rowsOf_to] at hr; exact tL_us R.us _ r hr⟩
  refine Ex1.if_ ?_
  refine Et.compare ?_
  refine Ev.call ?_
  repeat walk_at "ev"
  refine Ev.comp (CompOk.of (by kernel_rfl)) ?_
  refine Co.pure ?_
  refine Ei.list ?_
  repeat walk_at "ev"
  refine ⟨_, _, _, DAt.gm ok da' (by decide) rfl, ok.da3.kp, ?_⟩
  repeat walk_at "ev"
  refine Clc.cl (da_mapOf ok (n := n) (rm.to) da' hm' (kv_nm lc.ne.1) ?_)
  refine ⟨_, _, _, RMap.gm ok m2' (by decide) rfl, ok.rm3.kp, ?_⟩
  refine Clc.cl (rm_ranges ok (n := n) (rm.to) m2' (by omega) fun b H1 hb E hb' => ?_)
  obtain ⟨f, hf, hfm⟩ := fm_of tv tv_inj (fun _ => true) tv
  refine ⟨b, _, rfl, hb', f, hb', by rw [List.length_map]; exact Nat.le_trans (List.length_filter_le _ _) (by rw [rowsOf_len]; omega), fun L w hw => ?_, ?_⟩
  · obtain ⟨r, hr, rfl⟩ := List.mem_map.mp hw
    refine ⟨[("row", .tup [.int r.1, .int r.2.1, r.2.2.v])], rfl, bl1 rfl, ?_⟩
    show _ ∧ _
    refine ⟨rfl, fun _ => ?_, fun e => (by cases e)⟩
    repeat walk_at "ev"
    rw [hf]; rfl
  rw [hfm, List.filter_eq_self.mpr (fun _ _ => rfl)]
  intro b1 hb1
  refine Es.nil ?_
  refine Cl.repr (n := n) (rm.to) (tL_rd (AH.put_self _ _ _)) (nice.shaped (by decide)) nice.sho (nice.len (by decide)) ?_
  replace g9 := Ext.put (o := .list (((rowsOf l).filter fun r => decide (r.2.2 ≠ dflt)).map tv)) hb1 _ _ (E _ _ g9)
  replace E := E.trans (Ext.put (o := .list (((rowsOf l).filter fun r => decide (r.2.2 ≠ dflt)).map tv)) hb1)
  generalize (AH.put H1 b1 (.list (((rowsOf l).filter fun r => decide (r.2.2 ≠ dflt)).map tv))) = H2 at *
  refine Ev.call ?_
  repeat walk_at "ev"
  refine Cl.repr (n := n) (rm.to) (tL_rd g9) (nice.shaped (by decide)) nice.sho (nice.len (by decide)) ?_
  repeat walk_at "ev"
  rw [bne_self_eq_false]
  refine ⟨fun e => (by cases e), fun _ => ?_⟩
  exact Ex.nil (h _ _ (R.grow E))
theorem lt10 (rm : Rm A (n + 59)) (R : LP a σ H K D CL x dm sl pu m1 d1 m2 d2 pc nm dflt ss ps l) (lc : LC nm dflt ss)
    (h : ∀ σ' H' K', LP a σ' H' K' D CL x dm sl pu m1 d1 m2 d2 pc nm dflt ss ps l → Qn σ' H') :
    Ex1 (Cx.of G A (n + 59) rm (fnScope (top 26)) rfl q code f L) (st 26 10) σ H Qn Qr := by
  have s4 := R.ls.s4
  refine Ex1.for_ ?_
  refine Ei.list ?_
  repeat walk_at "ev"
  refine ⟨sl, _, rfl, R.ls.F.ext _ _ R.ls.g1, fun _ σ' H' => ∃ K', LP a σ' H' K' D CL x dm sl pu m1 d1 m2 d2 pc nm dflt ss ps l, ⟨K, R⟩, ?_, ?_, ?_⟩
  · rintro i σ' H' ⟨K', R'⟩; exact R'.ls.F.ext _ _ R'.ls.g1
  rotate_left
  · rintro σ' H' ⟨K', R'⟩; exact h σ' H' K' R'
  clear s4 h R
  rintro i z σ' H' hz ⟨K', R⟩
  obtain ⟨s, hs, rfl⟩ := List.mem_map.mp (List.mem_of_getElem? hz)
  clear hz
  have rw2 := R.mc.rw2
  have lo := R.len
  refine As.name (by walk_at "own") ?_
  have R1 := R.set (y := "value") (r := s.v) (by decide) (by decide)
  have s9 : (Lo.put σ' "value" s.v) "value" = some s.v := Lo.put_self _ _ _
  generalize (Lo.put σ' "value" s.v) = σ2 at *
  have sp := R1.sp
  obtain ⟨F, s1, s2, s3, s4, s5, s6, g1, da⟩ := R1.ls
  have da' := da.ext F.ext
  have hm' := F.ext _ _ R1.mc.dm
  have m2' := (R1.mc.m2.ext F.ext).map
  obtain ⟨pm, pb, pe, pl'⟩ := rw2.part s
  have ppl : (partOf l s).length ≤ l.length := by
    unfold partOf; rw [List.length_map, ← rowsOf_len l]; exact List.length_filter_le _ _
  refine Ex.cons ?_
  refine Ex1.if_ ?_
  refine Et.compare ?_
  repeat walk_at "ev"
  refine ⟨_, _, _, DAt.gm ok da' (by decide) rfl, ok.da3.kp, ?_⟩
  repeat walk_at "ev"
  refine Clc.cl (da_mapOf ok (n := n) (rm.to) da' hm' (kv_nm lc.ne.1) ?_)
  refine ⟨_, _, _, RMap.gm ok m2' (by decide) rfl, ok.rm4.kp, ?_⟩
  repeat walk_at "ev"
  refine Clc.cl (rm_setof ok (n := n) (rm.to) m2' (by omega) fun y m H1 bd hm cy E hy => ?_)
  obtain rfl := bd.unique pb
  refine ⟨_, _, _, CSet.gm ok cy (by decide) rfl, ok.cs3.kp, ?_⟩
  refine Clc.cl (cs_ranges ok (n := n) (rm.to) cy bd.2.1 (by omega) fun b H2 hb E2 hb' => ?_)
  repeat walk_at "ev"
  refine Clc.cl (c_part ok (n := n) (rm.to) (E2 _ _ (E _ _ (F.ext _ _ R1.gp))) (by omega) R1.us (lc.us s hs) fun b2 H3 hb2 E3 g => ?_)
  refine Do.neD (n := n) (rm.to) (pL_rd (E3 _ _ hb')) (pL_rd g) (shaped_pL _) (shaped_pL _) ?_
  rw [pe, (Lay.pL _).refl]
  refine ⟨_, rfl, fun e => (by cases e), fun _ => ?_⟩
  exact Ex.nil (Ex.nil ⟨_, R1.grow ((E.trans E2).trans E3)⟩)
theorem lt11 (rm : Rm A (n + 59)) (R : LP a σ H K D CL x dm sl pu m1 d1 m2 d2 pc nm dflt ss ps l) (lc : LC nm dflt ss)
    (h : ∀ H' K', LP a σ H' K' D CL x dm sl pu m1 d1 m2 d2 pc nm dflt ss ps l → Qn σ H') :
    Ex1 (Cx.of G A (n + 59) rm (fnScope (top 26)) rfl q code f L) (st 26 11) σ H Qn Qr := by
  obtain ⟨F, s1, s2, s3, s4, s5, s6, g1, da⟩ := R.ls
  have da' := da.ext F.ext
  have hm' := F.ext _ _ R.mc.dm
  obtain ⟨l1, ma, rwa, _⟩ := R.mc.m1
  have ma' := (ma.ext F.ext).map
  have nice : Nice 123 1 (.list [.str "W", .str "N", .str "Cn"]) := Nice.three (Nice.cn (by simp)) (Nice.cn (by simp)) (Nice.cn (by simp))
  have ev1 : eaF 5 = .str "W" := by decide
  have ev2 : eaF 2 = .str "N" := by decide
  refine Ex1.if_ ?_
  refine Et.compare ?_
  refine Ev.call ?_
  repeat walk_at "ev"
  refine ⟨_, _, _, DAt.gm ok da' (by decide) rfl, ok.da2.kp, ?_⟩
  repeat walk_at "ev"
  refine Clc.cl (da_get ok (n := n) (rm.to) da' hm' kv_ea ma' rwa (by decide) (by decide) ?_)
  rw [ev1]
  repeat walk_at "ev"
  refine ⟨_, _, _, DAt.gm ok da' (by decide) rfl, ok.da2.kp, ?_⟩
  repeat walk_at "ev"
  refine Clc.cl (da_get ok (n := n) (rm.to) da' hm' kv_ea ma' rwa (by decide) (by decide) ?_)
  rw [ev2]
  repeat walk_at "ev"
  refine ⟨_, _, _, DAt.gm ok da' (by decide) rfl, ok.da2.kp, ?_⟩
  repeat walk_at "ev"
  refine Clc.cl (da_getD ok (n := n) (rm.to) da' hm' (kv_gc lc.ne.2) ?_)
  rw [dk_get.2.2.2.1, Option.getD_some]
  repeat walk_at "ev"
  intro b1 hb1
  repeat walk_at "ev"
  refine Cl.repr (n := n) (d := .list [.str "W", .str "N", .str "Cn"]) (rm.to) (RD.list (AH.put_self _ _ _) (.cons (.str _) (.cons (.str _) (.cons (.str _) .nil)))) (nice.shaped (by decide)) nice.sho (nice.len (by decide)) ?_
  refine Ev.call ?_
  repeat walk_at "ev"
  intro b2 hb2
  repeat walk_at "ev"
  refine Cl.repr (n := n) (d := .list [.str "W", .str "N", .str "Cn"]) (rm.to) (RD.list (AH.put_self _ _ _) (.cons (.str _) (.cons (.str _) (.cons (.str _) .nil)))) (nice.shaped (by decide)) nice.sho (nice.len (by decide)) ?_
  repeat walk_at "ev"
  rw [bne_self_eq_false]
  refine ⟨fun e => (by cases e), fun _ => ?_⟩
  exact Ex.nil (h _ _ (R.grow ((Ext.put hb1).trans (Ext.put hb2))))
end
theorem filter_two {l : List (Int × Int × S)} {s t : S} (h : s ≠ t) : (l.filter fun r => decide (r.2.2 = s)).length + (l.filter fun r => decide (r.2.2 = t)).length ≤ l.length := by
  induction l with
  | nil => simp
  | cons r u ih =>
    rw [List.filter_cons, List.filter_cons]
    by_cases q : r.2.2 = s
    · have : ¬ r.2.2 = t := fun e => h (q.symm.trans e)
      simp [q, h] at ih ⊢; omega
    · by_cases q2 : r.2.2 = t
      · simp [q, q2, h.symm] at ih ⊢; omega
      · simp [q, q2] at ih ⊢; omega
section
variable {G : Gl} {a : Ad} (ok : Ok G a) {A : Around} {H K : AH} {σ : Lo} {Qn : Lo → AH → Prop} {Qr : V → AH → Prop} {n : Nat} {q : Str} {code : Value} {f L D CL x dm sl pu m1 d1 m2 d2 pc nr fr : Addr} {nm : Str} {dflt : S} {ss : List S} {ps : List (Int × Int × S)} {l : List (Int × S)}
include ok
theorem lt12 (rm : Rm A (n + 59)) (R : LP a σ H K D CL x dm sl pu m1 d1 m2 d2 pc nm dflt ss ps l)
    (h : ∀ c d H' K', c ∈ points → d ∈ points → LP a (Lo.put (Lo.put σ "first" (.int c)) "last" (.int d)) H' K' D CL x dm sl pu m1 d1 m2 d2 pc nm dflt ss ps l → Qn (Lo.put (Lo.put σ "first" (.int c)) "last" (.int d)) H') :
    Ex1 (Cx.of G A (n + 59) rm (fnScope (top 26)) rfl q code f L) (st 26 12) σ H Qn Qr := by
  have s1 := R.ls.s1
  refine Ex1.assignL ?_
  refine Ev.twoPoints (D := D) (fun H2 => ∃ K2, Gs H2 D CL pu K2 (ps.map tv) ∧ Ext K K2) ok (CompOk.of (by kernel_rfl)) ⟨K, R.ls.F, Ext.refl _⟩ ?_ ?_ ?_ ?_ (fun L => by kernel_rfl) (fun L => by kernel_rfl) (fun L => by kernel_rfl) ?_
  · rintro H2 ⟨K2, F2, e2⟩ Q hq
    exact F2.draw ok (n := n) (rm.to) (by decide) fun i H3 K3 i0 i1 F3 e3 => hq i H3 i0 i1 ⟨K3, F3, e2.trans e3⟩
  · rintro H2 b o ⟨K2, F2, e2⟩ hb
    obtain ⟨F3, kb⟩ := F2.put (o := o) hb
    exact ⟨_, F3, e2.trans (Ext.put kb)⟩
  · intro Q hq
    refine Ei.range ?_
    repeat walk_at "ev"
    refine Cl.range1 fun r t u v hr => ?_
    exact ⟨r, _, 0, _, 1, t, u, v, 2, rfl, rfl, hr, by decide, by decide, hq _ _⟩
  · intro y
    exact ⟨[("k", y)], rfl, bl1 rfl, fun L H' Q hq => Ev.cell (by kernel_rfl) (comp_lo1 (by kernel_rfl) (by decide) s1) hq⟩
  rintro b c d H2 hc hd ⟨K2, F2, e2⟩ hb
  refine ⟨b, _, _, _, rfl, hb, rfl, bo2 (by walk_at "own") (by walk_at "own"), ?_⟩
  exact h c d H2 K2 hc hd (((R.ext F2 e2).set (by decide) (by decide)).set (by decide) (by decide))
theorem lt13 (rm : Rm A (n + 59)) (R : LP a σ H K D CL x dm sl pu m1 d1 m2 d2 pc nm dflt ss ps l) (lc : LC nm dflt ss) {s t : S} {u : List S} (e : ss = s :: t :: u)
    (h : ∀ nr fr H' K', LP a (Lo.put (Lo.put σ "far" (.ref fr)) "near" (.ref nr)) H' K' D CL x dm sl pu m1 d1 m2 d2 pc nm dflt ss ps l → K' nr = some (.list ((partOf l s).map pv)) → K' fr = some (.list ((partOf l t).map pv)) → Qn (Lo.put (Lo.put σ "far" (.ref fr)) "near" (.ref nr)) H') :
    Ex1 (Cx.of G A (n + 59) rm (fnScope (top 26)) rfl q code f L) (st 26 13) σ H Qn Qr := by
  obtain ⟨F, s1, s2, s3, s4, s5, s6, g1, da⟩ := R.ls
  have sp := R.sp
  have lo := R.len
  have hs : s ∈ US := lc.us s (by rw [e]; simp)
  have ht : t ∈ US := lc.us t (by rw [e]; simp)
  have i0 : (sV ss)[(0 : Int).toNat]? = some s.v := by rw [e]; rfl
  have i1 : (sV ss)[(1 : Int).toNat]? = some t.v := by rw [e]; rfl
  refine Ex1.assignTS (names := ["near", "far"]) ?_
  repeat walk_at "ev"
  refine Do.item (F.ext _ _ g1) (by decide) i0 ?_
  repeat walk_at "ev"
  refine Clc.cl (c_part ok (n := n) (rm.to) (F.ext _ _ R.gp) (by omega) R.us hs fun nr H1 hn E1 h1 => ?_)
  obtain ⟨F1, k1⟩ := F.grow E1
  have h1k := F.new hn h1
  repeat walk_at "ev"
  refine Do.item (E1 _ _ (F.ext _ _ g1)) (by decide) i1 ?_
  repeat walk_at "ev"
  refine Clc.cl (c_part ok (n := n) (rm.to) (E1 _ _ (F.ext _ _ R.gp)) (by omega) R.us ht fun fr H2 hn2 E2 h2 => ?_)
  repeat walk_at "ev"
  refine ⟨on2 (by walk_at "own") (by walk_at "own"), ?_⟩
  exact h nr fr H2 _ (((R.grow (E1.trans E2)).set (by decide) (by decide)).set (by decide) (by decide)) ((F1.grow E2).2 _ _ h1k) (F1.new hn2 h2)
theorem lt14 (rm : Rm A (n + 59)) (R : LP a σ H K D CL x dm sl pu m1 d1 m2 d2 pc nm dflt ss ps l) {m m' : List Int} {T : Int → Prop} (bm : Bd m' T) (hT : ∀ k, T k → 0 ≤ k ∧ k ≤ 1114111) (hl : m'.length ≤ 22) {c d : Int} (hc : c ∈ points) (hd : d ∈ points)
    (s7 : σ "first" = some (.int c)) (s8 : σ "last" = some (.int d)) (sf : σ "far" = some (.ref fr)) (h1 : K nr = some (.list ((rangesOf m).map pv))) (h2 : K fr = some (.list ((rangesOf m').map pv)))
    (h : ∀ fr' H' K' j T', LP a (Lo.put σ "far" (.ref fr')) H' K' D CL x dm sl pu m1 d1 m2 d2 pc nm dflt ss ps l → K' nr = some (.list ((rangesOf m).map pv)) → K' fr' = some (.list ((rangesOf j).map pv)) → Bd j T' → (∀ k, T' k → 0 ≤ k ∧ k ≤ 1114111) → j.length ≤ 2 * m'.length + 6 → Qn (Lo.put σ "far" (.ref fr')) H') :
    Ex1 (Cx.of G A (n + 59) rm (fnScope (top 26)) rfl q code f L) (st 26 14) σ H Qn Qr := by
  have F := R.ls.F
  have pc := points_le hc
  have pd := points_le hd
  have ll := rangesOf_len m'
  refine Ex1.assign (by walk_at "own") ?_
  refine Ev.ifexp ?_
  repeat walk_at "ev"
  refine ⟨fun e => ?_, fun e => ?_⟩
  · have e : c ≤ d := by simpa using e
    repeat walk_at "ev"
    intro b2 hb2
    repeat walk_at "ev"
    have g2 : (AH.put H b2 (.list [.tup [.int c, .int d]])) b2 = some (.list ([(c, d)].map pv)) := AH.put_self _ _ _
    refine Clc.cl (c_mixed ok (way := 0) (n := n) (rm.to) (Ext.put hb2 _ _ (F.ext _ _ h2)) g2 (by rw [List.length_singleton]; omega) (by decide) (fun p hp => ⟨(hT _ (bm.pairs p hp).2.1).1, (bm.pairs p hp).1⟩)
      (fun p hp => by rw [List.mem_singleton] at hp; subst hp; exact ⟨pc.1, e⟩) fun b j H3 hj hjl hb E hb' => ?_)
    have E' := (Ext.put (o := .list [.tup [.int c, .int d]]) hb2).trans E
    rw [List.length_singleton] at hjl
    refine h b H3 _ j _ ((R.grow E').set (by decide) (by decide)) ((F.grow E').2 _ _ h1) (F.new (Ext.none (Ext.put hb2) hb) hb') hj (fun k q => q.1) (by omega)
  · repeat walk_at "ev"
    exact h fr H K m' T (R.set (by decide) (by decide)) h1 h2 bm hT (by omega)
theorem lt15 (rm : Rm A (n + 59)) (R : LP a σ H K D CL x dm sl pu m1 d1 m2 d2 pc nm dflt ss ps l) {m j : List Int} {S T : Int → Prop} (bl : Bd m S) (bm : Bd j T)
    (hS : ∀ k, S k → 0 ≤ k ∧ k ≤ 1114111) (hT : ∀ k, T k → 0 ≤ k ∧ k ≤ 1114111) (hz : m.length + j.length ≤ 60) (sn : σ "near" = some (.ref nr)) (sf : σ "far" = some (.ref fr)) (h1 : K nr = some (.list ((rangesOf m).map pv))) (h2 : K fr = some (.list ((rangesOf j).map pv)))
    (h : ∀ H', Qr (.bool true) H') : Ex1 (Cx.of G A (n + 59) rm (fnScope (top 26)) rfl q code f L) (st 26 15) σ H Qn Qr := by
  have s1 := R.ls.s1
  obtain ⟨F, e⟩ := R.ls.F.fs
  refine Ex1.ret ?_
  repeat walk_at "ev"
  exact Clc.cl (c_right ok (n := n) (rm.to) F (e _ _ h1) (e _ _ h2) bl bm hS hT hz h)
end
section
variable {G : Gl} {a : Ad} (ok : Ok G a) {A : Around} {H K : AH} {σ : Lo} {Qn : Lo → AH → Prop} {Qr : V → AH → Prop} {n : Nat} {q : Str} {code : Value} {f L D CL x dm sl pu m1 d1 m2 d2 pc nr fr : Addr} {nm : Str} {dflt : S} {ss : List S} {ps : List (Int × Int × S)} {l : List (Int × S)}
include ok
set_option maxHeartbeats 1000000 in
theorem c_law {fl r : Addr} {script : List Int} {Q : V → AH → Prop} (fn : Fn G fl ["script"] (fnScope (top 26)) (fnBody (top 26))) (rm : Rm A (n + 60)) (hr : Ro G r (script.map .int)) (hz : script.length ≤ 64) (h : ∀ H', Q (.bool true) H') :
    Clc G A (.ref fl) [.ref r] H Q := by
  refine Clc.enter rm fn rfl (by kernel_rfl) (by kernel_rfl) (by kernel_rfl) (by decide) fun env q code L => ?_
  refine Ex.cons (lt0 ok (rm.deeper env) hr hz fun H0 K0 D CL F0 => ?_)
  refine Ex.consX ?_
  refine lt1 ok (rm.deeper env) F0 (Lo.put_self _ _ _) ?_
  intro H1 K1 nm dflt ss sl lc F1 g1
  have t1 : ∀ {σ : Lo} {x y z : V}, (Lo.put (Lo.put (Lo.put σ "name" x) "default" y) "some" z) "deck" = σ "deck" := fun {σ x y z} => (Lo.put_ne _ _ (by decide)).trans ((Lo.put_ne _ _ (by decide)).trans (Lo.put_ne _ _ (by decide)))
  have t2 : ∀ {σ : Lo} {x y z : V}, (Lo.put (Lo.put (Lo.put σ "name" x) "default" y) "some" z) "name" = some x := fun {σ x y z} => (Lo.put_ne _ _ (by decide)).trans ((Lo.put_ne _ _ (by decide)).trans (Lo.put_self _ _ _))
  have t3 : ∀ {σ : Lo} {x y z : V}, (Lo.put (Lo.put (Lo.put σ "name" x) "default" y) "some" z) "default" = some y := fun {σ x y z} => (Lo.put_ne _ _ (by decide)).trans (Lo.put_self _ _ _)
  refine Ex.cons (lt2 ok (rm.deeper env) F1 g1 (t1.trans (Lo.put_self _ _ _)) t2 t3 (Lo.put_self _ _ _) fun σ2 H2 K2 x dm pu R2 g2 => ?_)
  clear t1 t2 t3
  refine Ex.cons (lt3 ok (rm.deeper env) R2 lc g2 fun H3 K3 R3 g3 => ?_)
  refine Ex.cons (lt4 ok (rm.deeper env) R3 g3 fun H4 K4 m1 d1 R4 g4 ma => ?_)
  refine Ex.cons (lt5 ok (rm.deeper env) R4 lc g4 ma fun σ5 H5 K5 ps m2 d2 l R5 hl po mc => ?_)
  refine Ex.cons (lt6 ok (rm.deeper env) R5 lc hl po mc fun σ6 H6 K6 pc R6 => ?_)
  refine Ex.cons (lt7 ok (rm.deeper env) R6 lc fun σ7 H7 K7 R7 => ?_)
  refine Ex.cons (lt8 ok (rm.deeper env) R7 lc fun du H8 K8 R8 g8 => ?_)
  refine Ex.cons (lt9 ok (rm.deeper env) R8 lc (Lo.put_self _ _ _) g8 fun H9 K9 R9 => ?_)
  refine Ex.cons (lt10 ok (rm.deeper env) R9 lc fun σ10 H10 K10 R10 => ?_)
  refine Ex.cons (lt11 ok (rm.deeper env) R10 lc fun H11 K11 R11 => ?_)
  refine Ex.cons (lt12 ok (rm.deeper env) R11 fun c d H12 K12 hc hd R12 => ?_)
  obtain ⟨s, t, u, es, ne⟩ := lc.two
  refine Ex.cons (lt13 ok (rm.deeper env) R12 lc es fun nr fr H13 K13 R13 h1 h2 => ?_)
  have rw2 := R13.mc.rw2
  have lo := R13.len
  obtain ⟨p1, b1, e1, z1⟩ := rw2.part s
  obtain ⟨p2, b2, e2, z2⟩ := rw2.part t
  have f2 := filter_two (l := rowsOf l) ne
  have y1 : (partOf l s).length = ((rowsOf l).filter fun r => decide (r.2.2 = s)).length := by unfold partOf; rw [List.length_map]
  have y2 : (partOf l t).length = ((rowsOf l).filter fun r => decide (r.2.2 = t)).length := by unfold partOf; rw [List.length_map]
  rw [rowsOf_len] at f2
  rw [e1] at h1
  rw [e2] at h2
  have hin : ∀ (s : S) (k : Int), (∃ r ∈ rowsOf l, r.2.2 = s ∧ r.1 ≤ k ∧ k ≤ r.2.1) → 0 ≤ k ∧ k ≤ 1114111 := fun s k ⟨r, hr, _, h1, h2⟩ => by
    have := rw2.rows.1 r hr; omega
  refine Ex.cons (lt14 ok (rm.deeper env) R13 b2 (hin t) (by omega) hc hd ((Lo.put_ne _ _ (by decide)).trans ((Lo.put_ne _ _ (by decide)).trans ((Lo.put_ne _ _ (by decide)).trans (Lo.put_self _ _ _)))) ((Lo.put_ne _ _ (by decide)).trans ((Lo.put_ne _ _ (by decide)).trans (Lo.put_self _ _ _)))
    ((Lo.put_ne _ _ (by decide)).trans (Lo.put_self _ _ _)) h1 h2 fun fr' H14 K14 j T' R14 h1' h2' bj hT' hj => ?_)
  exact Ex.cons (lt15 ok (rm.deeper env) R14 b1 bj (hin s) hT' (by omega) ((Lo.put_ne _ _ (by decide)).trans (Lo.put_self _ _ _)) (Lo.put_self _ _ _) h1' h2' h)
end
end
end Mine
namespace Mine
open PySem PySem.W PySem.Calls PyProof.Rows
noncomputable def fdw (fd : FuncData) (st : Stmt) : FuncData := { fd with params := fnParams st, defaults := .none }
noncomputable def Binds (st : Stmt) (ps : List Str) : Prop := ∀ (fd : FuncData) vals, vals.length = ps.length → bindArgs (fdw fd st) ⟨vals, []⟩ = pure (ps.zip vals)
theorem Binds.at {st ps} (b : Binds st ps) (fd : FuncData) (hp : fd.params = fnParams st) (hd : fd.defaults = .none) (vals : List Value) (hl : vals.length = ps.length) : bindArgs fd ⟨vals, []⟩ = pure (ps.zip vals) := by
  have e : fdw fd st = fd := by
    unfold fdw
    cases fd
    dsimp only at hp hd
    subst hp hd
    rfl
  rw [← e]
  exact b fd vals hl
theorem len_s {α : Type} {l : List α} {n : Nat} (h : l.length = n + 1) : ∃ a t, l = a :: t ∧ t.length = n := by
  cases l with
  | nil => cases h
  | cons a t => exact ⟨a, t, rfl, Nat.succ.inj h⟩
theorem Binds.n0 {st} (h : ∀ fd, bindArgs (fdw fd st) ⟨[], []⟩ = pure []) : Binds st [] := fun fd vals hl => by
  obtain rfl := List.eq_nil_of_length_eq_zero hl
  exact h fd
theorem Binds.n1 {st p} (h : ∀ fd a, bindArgs (fdw fd st) ⟨[a], []⟩ = pure [(p, a)]) : Binds st [p] := fun fd vals hl => by
  obtain ⟨a, w1, rfl, g1⟩ := len_s hl
  obtain rfl := List.eq_nil_of_length_eq_zero g1
  exact h fd _
theorem Binds.n2 {st p q} (h : ∀ fd a b, bindArgs (fdw fd st) ⟨[a, b], []⟩ = pure [(p, a), (q, b)]) : Binds st [p, q] := fun fd vals hl => by
  obtain ⟨a, w2, rfl, g2⟩ := len_s hl
  obtain ⟨b, w3, rfl, g3⟩ := len_s g2
  obtain rfl := List.eq_nil_of_length_eq_zero g3
  exact h fd _ _
theorem Binds.n3 {st p q r} (h : ∀ fd a b c, bindArgs (fdw fd st) ⟨[a, b, c], []⟩ = pure [(p, a), (q, b), (r, c)]) : Binds st [p, q, r] := fun fd vals hl => by
  obtain ⟨a, w4, rfl, g4⟩ := len_s hl
  obtain ⟨b, w5, rfl, g5⟩ := len_s g4
  obtain ⟨c, w6, rfl, g6⟩ := len_s g5
  obtain rfl := List.eq_nil_of_length_eq_zero g6
  exact h fd _ _ _
theorem Binds.n4 {st p q r t} (h : ∀ fd a b c d, bindArgs (fdw fd st) ⟨[a, b, c, d], []⟩ = pure [(p, a), (q, b), (r, c), (t, d)]) : Binds st [p, q, r, t] := fun fd vals hl => by
  obtain ⟨a, w7, rfl, g7⟩ := len_s hl
  obtain ⟨b, w8, rfl, g8⟩ := len_s g7
  obtain ⟨c, w9, rfl, g9⟩ := len_s g8
  obtain ⟨d, w10, rfl, g10⟩ := len_s g9
  obtain rfl := List.eq_nil_of_length_eq_zero g10
  exact h fd _ _ _ _
theorem Binds.n5 {st p q r t m} (h : ∀ fd a b c d e, bindArgs (fdw fd st) ⟨[a, b, c, d, e], []⟩ = pure [(p, a), (q, b), (r, c), (t, d), (m, e)]) : Binds st [p, q, r, t, m] := fun fd vals hl => by
  obtain ⟨a, w11, rfl, g11⟩ := len_s hl
  obtain ⟨b, w12, rfl, g12⟩ := len_s g11
  obtain ⟨c, w13, rfl, g13⟩ := len_s g12
  obtain ⟨d, w14, rfl, g14⟩ := len_s g13
  obtain ⟨e, w15, rfl, g15⟩ := len_s g14
  obtain rfl := List.eq_nil_of_length_eq_zero g15
  exact h fd _ _ _ _ _
theorem CodeRec_of {h : Heap} {cd : Value} {q : Str} (b : codeOk h cd q = true) : h.CodeRec cd q := by
  unfold codeOk at b
  split at b
  · split at b
    · rename_i c _ _ _ vs _ hc
      split at b
      · rename_i x t hv
        exact ⟨c, _, vs, t, rfl, hc, rfl, by rw [hv, beq_iff_eq.mp b]⟩
      · cases b
    · cases b
  · cases b
theorem Fn.of {G : Gl} {h : Heap} {f : Addr} {st : Stmt} {ps : List Str} (hk : ∀ b o, h.get? b = some o → G.h₀.get? b = some o) (e : fnObs h f = fnExp st) (b : fnB h false f = true) (bi : Binds st ps) : Fn G f ps (fnScope st) (fnBody st) := by
  unfold fnObs at e
  split at e
  · rename_i c d fd sl hf
    unfold fnB at b
    rw [hf] at b
    dsimp only at b
    obtain ⟨b1, b2⟩ := Bool.and_eq_true_iff.mp b
    simp only [fnExp, Option.some.injEq, Prod.mk.injEq] at e
    obtain ⟨e1, e2, e3, e4, e5, e6⟩ := e
    refine ⟨_, fd, hk _ _ hf, rfl, e1, e2, e4, e5, e6, (CodeRec_of b1).keeps hk, fun vals hl s _ => BindsTo.of_eq (bi.at fd e3 ?_ vals hl)⟩
    simpa using b2
  · cases e
theorem Fn.of1 {G : Gl} {h : Heap} {f : Addr} (hk : ∀ b o, h.get? b = some o → G.h₀.get? b = some o) (e : fnObs h f = fnExp (meth 9 0)) (b : fnB h true f = true) : Fn G f ["self", "bounds"] (fnScope (meth 9 0)) (fnBody (meth 9 0)) := by
  unfold fnObs at e
  split at e
  · rename_i c d fd sl hf
    unfold fnB at b
    rw [hf] at b
    dsimp only at b
    obtain ⟨b1, b2⟩ := Bool.and_eq_true_iff.mp b
    simp only [fnExp, Option.some.injEq, Prod.mk.injEq] at e
    obtain ⟨e1, e2, e3, e4, e5, e6⟩ := e
    refine ⟨_, fd, hk _ _ hf, rfl, e1, e2, e4, e5, e6, (CodeRec_of b1).keeps hk, fun vals hl s ks => ?_⟩
    rw [if_pos rfl] at b2
    unfold seqAt at b2
    split at b2
    · rename_i T hd
      split at b2
      · rename_i c' d' vs n sl' hT
        obtain ⟨v, rfl⟩ : ∃ v, vs = #[v] := by
          have := beq_iff_eq.mp b2
          obtain ⟨l⟩ := vs
          obtain ⟨v, t, rfl, h2⟩ := len_s (n := 0) this
          obtain rfl := List.eq_nil_of_length_eq_zero h2
          exact ⟨v, rfl⟩
        obtain ⟨v1, w16, rfl, g16⟩ := len_s hl
        obtain ⟨v2, w17, rfl, g17⟩ := len_s g16
        obtain rfl := List.eq_nil_of_length_eq_zero g17
        · have ho := ks _ _ (hk _ _ hT)
          clear b1 b2 e1 e2 e4 e5 e6 hf hT
          cases fd
          dsimp only at e3 hd
          subst e3 hd
          refine BindsTo.of_defaults (T := T) rfl ho rfl (by with_unfolding_all rfl) ?_
          kernel_rfl
      · cases b2
    · cases b2
  · cases e
theorem Cls.of {G : Gl} {C : Addr} {attrs : List Str} {meths : List (Str × Addr)} {init : Addr} (b : clsB G.K C attrs meths init = true) : Cls G C attrs meths init := by
  unfold clsB at b
  simp only [Bool.and_eq_true, beq_iff_eq, List.all_eq_true] at b
  obtain ⟨⟨⟨⟨⟨⟨⟨⟨⟨b0, b1⟩, b2⟩, b3⟩, b4⟩, b5⟩, b6⟩, b7⟩, b8⟩, b9⟩ := b
  refine ⟨b0, b1, b2, fun x f e => ?_, b4, b5, b6, b7, b8, Kp.of b9⟩
  have m : (x, f) ∈ meths := mem_of_lookup e
  exact b3 _ m
theorem ints_vr {h : Heap} : ∀ {vs : List Value} {is : List Int}, intsAre vs is = true → VRs h vs (is.map .int)
  | [], [], _ => .nil
  | .int j t :: vs, i :: is, e => by
    unfold intsAre at e
    obtain ⟨e1, e2⟩ := Bool.and_eq_true_iff.mp e
    rw [beq_iff_eq.mp e1]
    exact .cons (.int _ _) (ints_vr e2)
theorem static_of {G : Gl} {C p f : Addr} (b : staticB G.K C p f = true) : ∀ A H, Gm G A (.lit (.ref C)) "of" H (.ref f) [] H := by
  unfold staticB at b
  simp only [Bool.and_eq_true, beq_iff_eq] at b
  obtain ⟨⟨⟨b0, b1⟩, b2⟩, b3⟩ := b
  split at b2
  · rename_i g p' C' e
    simp only [Bool.and_eq_true, beq_iff_eq] at b2
    obtain ⟨⟨rfl, rfl⟩, rfl⟩ := b2
    split at b3
    · rename_i f' rest e2
      obtain rfl := beq_iff_eq.mp b3
      exact fun A H => Gm.static b0 b1 e e2
    · cases b3
  · cases b2
theorem glob_of {h : Heap} {P : Str → V → Prop} (hr : ∀ x ∈ fnNames, P x (.lit (.ref (gAddr h x)))) (g2 : P "MAX_CODE" (.int 1114111)) (g3 : P "RANGE_END" (.int 1114112)) (g4 : P "_law_last" (.int 1114111)) (g5 : P "_law_points" (.tup (points.map .int)))
    {x : Str} {r : V} (e : glob (adOf h) x = some r) : P x r := by
  have m : (x, r) ∈ (fnNames.take 18).map (fun x => ((x, V.lit (.ref (gAddr h x))) : Str × V)) ++ ([("MAX_CODE", .int 1114111), ("RANGE_END", .int 1114112), ("_law_last", .int 1114111), ("_law_points", .tup (points.map .int))] : List (Str × V)) := mem_of_lookup (l := globL (adOf h)) e
  rcases List.mem_append.mp m with m | m
  · obtain ⟨y, hy, q⟩ := List.mem_map.mp m
    cases q
    exact hr _ (List.mem_of_mem_take hy)
  · rcases List.mem_cons.mp m with q | m
    · cases q; exact g2
    rcases List.mem_cons.mp m with q | m
    · cases q; exact g3
    rcases List.mem_cons.mp m with q | m
    · cases q; exact g4
    rcases List.mem_cons.mp m with q | m
    · cases q; exact g5
    · cases m
theorem blt_of {x : Str} {v : Value} (e : blt x = some v) : x ∈ bltNames := by
  have m : x ∈ bltL.map Prod.fst := List.mem_map.mpr ⟨_, mem_of_lookup e, rfl⟩
  exact m
theorem fn_law {G : Gl} {h : Heap} (hk : ∀ b o, h.get? b = some o → G.h₀.get? b = some o) (fb : ∀ i < 37, fnB h (i == 16) (fnAt (adOf h) (gAddr h "law") i).1 = true) (fe : ∀ i < 37, fnObs h (fnAt (adOf h) (gAddr h "law") i).1 = fnExp (fnStmt i)) :
    Fn G (gAddr h "law") ["script"] (fnScope (top 26)) (fnBody (top 26)) := Fn.of hk (fe 15 (by decide)) (fb 15 (by decide)) (.n1 fun _ _ => by kernel_rfl)
theorem ok_of {G : Gl} {h : Heap} (hk : ∀ b o, h.get? b = some o → G.h₀.get? b = some o) (hK : G.K = kOf h) (hg : G.mg = h.nsMap mainGlobals) (hb : G.mb = h.nsMap builtinsNs)
    (g1 : ∀ x ∈ fnNames, isRef (h.nsMap mainGlobals x) = true) (g2 : intIs (h.nsMap mainGlobals "MAX_CODE") 1114111 = true) (g3 : intIs (h.nsMap mainGlobals "RANGE_END") 1114112 = true) (g4 : intIs (h.nsMap mainGlobals "_law_last") 1114111 = true) (g5 : tupIs h (h.nsMap mainGlobals "_law_points") points = true)
    (bl : ∀ x ∈ bltNames, (h.nsMap mainGlobals x).isNone = true ∧ h.nsMap builtinsNs x = blt x)
    (fb : ∀ i < 37, fnB h (i == 16) (fnAt (adOf h) (gAddr h "law") i).1 = true) (fe : ∀ i < 37, fnObs h (fnAt (adOf h) (gAddr h "law") i).1 = fnExp (fnStmt i))
    (c1 : clsB (kOf h) (adOf h).CodeSet ["bounds"] (csMeths (adOf h)) ((adOf h).cs 0) = true) (c2 : clsB (kOf h) (adOf h).RangeMap ["default", "starts", "values"] (rmMeths (adOf h)) ((adOf h).rm 0) = true)
    (c3 : clsB (kOf h) (adOf h).Data ["defaults", "maps", "properties", "words"] (daMeths (adOf h)) ((adOf h).da 0) = true) (c4 : staticB (kOf h) (adOf h).CodeSet (mAddr h (adOf h).CodeSet "of") ((adOf h).cs 1) = true) : Ok G (adOf h) := by
  rw [← hK] at c1 c2 c3 c4
  have hr : ∀ x ∈ fnNames, ∃ v, G.mg x = some v ∧ VR G.h₀ v (.lit (.ref (gAddr h x))) := fun x hx => ⟨_, by rw [hg]; exact isRef_eq (g1 x hx), .lit _⟩
  have hi : ∀ {x : Str} {i : Int}, intIs (h.nsMap mainGlobals x) i = true → ∃ v, G.mg x = some v ∧ VR G.h₀ v (.int i) := fun {x i} e => by
    unfold intIs at e
    split at e
    · rename_i j t q
      rw [hg, q, ← beq_iff_eq.mp e]
      exact ⟨_, rfl, .int _ _⟩
    · cases e
  refine { gl := ?_, bi := ?_, place := Fn.of hk (fe 0 (by decide)) (fb 0 (by decide)) (.n2 fun _ _ _ => by kernel_rfl), firstOf := Fn.of hk (fe 1 (by decide)) (fb 1 (by decide)) (.n1 fun _ _ => by kernel_rfl), bounds := Fn.of hk (fe 2 (by decide)) (fb 2 (by decide)) (.n1 fun _ _ => by kernel_rfl),
           wanted := Fn.of hk (fe 3 (by decide)) (fb 3 (by decide)) (.n3 fun _ _ _ _ => by kernel_rfl), merged := Fn.of hk (fe 4 (by decide)) (fb 4 (by decide)) (.n3 fun _ _ _ _ => by kernel_rfl), areLike := Fn.of hk (fe 5 (by decide)) (fb 5 (by decide)) (.n2 fun _ _ _ => by kernel_rfl),
           rows := Fn.of hk (fe 6 (by decide)) (fb 6 (by decide)) (.n1 fun _ _ => by kernel_rfl), defaults := Fn.of hk (fe 7 (by decide)) (fb 7 (by decide)) (.n0 fun _ => by kernel_rfl), deck := Fn.of hk (fe 8 (by decide)) (fb 8 (by decide)) (.n1 fun _ _ => by kernel_rfl),
           draw := Fn.of hk (fe 9 (by decide)) (fb 9 (by decide)) (.n2 fun _ _ _ => by kernel_rfl), pieces := Fn.of hk (fe 10 (by decide)) (fb 10 (by decide)) (.n2 fun _ _ _ => by kernel_rfl), part := Fn.of hk (fe 11 (by decide)) (fb 11 (by decide)) (.n2 fun _ _ _ => by kernel_rfl),
           has := Fn.of hk (fe 12 (by decide)) (fb 12 (by decide)) (.n2 fun _ _ _ => by kernel_rfl), mixed := Fn.of hk (fe 13 (by decide)) (fb 13 (by decide)) (.n3 fun _ _ _ _ => by kernel_rfl), right := Fn.of hk (fe 14 (by decide)) (fb 14 (by decide)) (.n3 fun _ _ _ _ => by kernel_rfl),
           cs0 := Fn.of1 hk (fe 16 (by decide)) (fb 16 (by decide)), cs1 := Fn.of hk (fe 17 (by decide)) (fb 17 (by decide)) (.n1 fun _ _ => by kernel_rfl), cs2 := Fn.of hk (fe 18 (by decide)) (fb 18 (by decide)) (.n2 fun _ _ _ => by kernel_rfl),
           cs3 := Fn.of hk (fe 19 (by decide)) (fb 19 (by decide)) (.n1 fun _ _ => by kernel_rfl), cs4 := Fn.of hk (fe 20 (by decide)) (fb 20 (by decide)) (.n1 fun _ _ => by kernel_rfl), cs5 := Fn.of hk (fe 21 (by decide)) (fb 21 (by decide)) (.n2 fun _ _ _ => by kernel_rfl),
           cs6 := Fn.of hk (fe 22 (by decide)) (fb 22 (by decide)) (.n2 fun _ _ _ => by kernel_rfl), cs7 := Fn.of hk (fe 23 (by decide)) (fb 23 (by decide)) (.n2 fun _ _ _ => by kernel_rfl), cs8 := Fn.of hk (fe 24 (by decide)) (fb 24 (by decide)) (.n1 fun _ _ => by kernel_rfl),
           cs9 := Fn.of hk (fe 25 (by decide)) (fb 25 (by decide)) (.n3 fun _ _ _ _ => by kernel_rfl), cs10 := Fn.of hk (fe 26 (by decide)) (fb 26 (by decide)) (.n2 fun _ _ _ => by kernel_rfl), cs11 := Fn.of hk (fe 27 (by decide)) (fb 27 (by decide)) (.n2 fun _ _ _ => by kernel_rfl),
           rm0 := Fn.of hk (fe 28 (by decide)) (fb 28 (by decide)) (.n2 fun _ _ _ => by kernel_rfl), rm1 := Fn.of hk (fe 29 (by decide)) (fb 29 (by decide)) (.n2 fun _ _ _ => by kernel_rfl), rm2 := Fn.of hk (fe 30 (by decide)) (fb 30 (by decide)) (.n4 fun _ _ _ _ _ => by kernel_rfl),
           rm3 := Fn.of hk (fe 31 (by decide)) (fb 31 (by decide)) (.n1 fun _ _ => by kernel_rfl), rm4 := Fn.of hk (fe 32 (by decide)) (fb 32 (by decide)) (.n2 fun _ _ _ => by kernel_rfl), da0 := Fn.of hk (fe 33 (by decide)) (fb 33 (by decide)) (.n1 fun _ _ => by kernel_rfl),
           da1 := Fn.of hk (fe 34 (by decide)) (fb 34 (by decide)) (.n5 fun _ _ _ _ _ _ => by kernel_rfl), da2 := Fn.of hk (fe 35 (by decide)) (fb 35 (by decide)) (.n3 fun _ _ _ _ => by kernel_rfl), da3 := Fn.of hk (fe 36 (by decide)) (fb 36 (by decide)) (.n2 fun _ _ _ => by kernel_rfl),
           CS := Cls.of c1, RM := Cls.of c2, DA := Cls.of c3, of_ := static_of c4 }
  · exact fun x r e => glob_of (P := fun x r => ∃ v, G.mg x = some v ∧ VR G.h₀ v r) hr (hi g2) (hi g3) (hi g4) (by
      rw [hg]
      unfold tupIs at g5
      split at g5
      · rename_i p q
        split at g5
        · rename_i d vs n sl q2
          rw [q]
          exact ⟨_, rfl, .tup (hk _ _ q2) rfl rfl (ints_vr g5)⟩
        · cases g5
      · cases g5) e
  · intro x v e
    have hx := blt_of e
    obtain ⟨b1, b2⟩ := bl x hx
    rw [hg, hb]
    exact ⟨Option.isNone_iff_eq_none.mp b1, by rw [b2]; exact e⟩
end Mine
namespace Mine
open PySem PySem.W PySem.Calls PyProof.Rows
theorem pre_len {xs : List WData} (h : (PySem.Challenge.rw_nt0013_01).row.toRowW.pre.holds [] { args := [.list xs] } = true) : xs.length ≤ 63 := by
  have h' : ((WTm.and (.not (.lt (.lit (.int 63)) (.len (.arg 0)))) (.lit (.bool true))).holds [] { args := [.list xs] }) = true := h
  simp only [WTm.holds, WTm.value] at h'
  by_cases q : (63 : Int) < xs.length
  · have e : less? (.int 63) (.int xs.length) = some true := congrArg some (decide_eq_true q)
    simp [e] at h'
  · omega
theorem readW_int {R : WRecords} {cl : Str → Option Addr} {h : Heap} {v : Value} {i : Int} {as : List Addr} (a : ReadsW R cl h v (.int i) as) : ∃ t, v = .int i t := by
  cases a; exact ⟨_, rfl⟩
theorem readsW_nil {R : WRecords} {cl : Str → Option Addr} {h : Heap} {vs : List Value} {as : List Addr} (a : ReadsAllW R cl h vs [] as) : vs = [] := by
  cases a; rfl
theorem readsW_cons {R : WRecords} {cl : Str → Option Addr} {h : Heap} {vs : List Value} {x : WData} {xs : List WData} {as : List Addr} (a : ReadsAllW R cl h vs (x :: xs) as) : ∃ v ws bs cs, vs = v :: ws ∧ ReadsW R cl h v x bs ∧ ReadsAllW R cl h ws xs cs := by
  cases a with | cons p q => exact ⟨_, _, _, _, rfl, p, q⟩
theorem reads_ints {R : WRecords} {cl : Str → Option Addr} {h : Heap} {xs : List WData} : ∀ {vs : List Value} {as : List Addr}, ReadsAllW R cl h vs xs as → WShape.hasItems R xs .int = true → ∃ is : List Int, VRs h vs (is.map .int) ∧ is.length = xs.length := by
  induction xs with
  | nil => exact fun a _ => by obtain rfl := readsW_nil a; exact ⟨[], .nil, rfl⟩
  | cons x xs ih =>
    intro vs as a e
    simp only [WShape.hasItems, Bool.and_eq_true] at e
    obtain ⟨v, ws, bs, cs, rfl, p, q⟩ := readsW_cons a
    obtain ⟨i, rfl⟩ := hasW_int e.1
    obtain ⟨is, h1, h2⟩ := ih q e.2
    obtain ⟨t, rfl⟩ := readW_int p
    exact ⟨i :: is, .cons (.int _ _) h1, by simp [h2]⟩
theorem post_ok (args ds : List WData) : (PySem.Challenge.rw_nt0013_01).row.toRowW.claim.post args (.bool true) ds = true := by
  kernel_rfl
theorem rm_caller : Rm callerA (0 + 60) := ⟨by decide +kernel, by decide +kernel, rfl, rfl, ⟨[], rfl⟩⟩
theorem obs_parts {s : Shared} {w : World} (e : obsAll s = expAll w) : okB s.heap = true ∧ ∀ i < 37, fnObs s.heap (fnAt (adOf s.heap) (gAddr s.heap "law") i).1 = fnExp (fnStmt i) := by
  refine ⟨congrArg Prod.fst e, fun i hi => ?_⟩
  have e2 : ((List.range 37).map fun i => fnObs s.heap (fnAt (adOf s.heap) (gAddr s.heap "law") i).1) = (List.range 37).map fun i => fnExp (fnStmt i) := congrArg Prod.snd e
  exact List.map_inj_left.mp e2 i (List.mem_range.mpr hi)
theorem walk {d : DefRec} {kwd : List (Str × Expr)} (hd : d.name = "law") : WalkX vw looseN (fun _ _ => True) obsAll expAll (PySem.Challenge.rw_nt0013_01).row.toRowW d kwd fun f vs => PySem.call f vs := by
  intro w s₀ s₁ mg mb G Y a o pm cd doc dV kV ho hdd hcd hD hmg hg args vals as L hpre hlay hrd hwl hlo
  obtain ⟨okb, fe⟩ := obs_parts Y
  have hk := L.keeps
  unfold okB at okb
  simp only [Bool.and_eq_true] at okb
  obtain ⟨⟨⟨⟨⟨⟨⟨⟨⟨⟨⟨⟨⟨⟨⟨n1, n2⟩, n3⟩, n4⟩, n5⟩, g1⟩, g2⟩, g3⟩, g4⟩, g5⟩, bl⟩, fb⟩, c1⟩, c2⟩, c3⟩, c4⟩ := okb
  have g1' := List.all_eq_true.mp g1
  have bl' : ∀ x ∈ bltNames, (s₀.heap.nsMap mainGlobals x).isNone = true ∧ s₀.heap.nsMap builtinsNs x = blt x := fun x hx => by
    have := List.all_eq_true.mp bl x hx
    simp only [Bool.and_eq_true, beq_iff_eq] at this
    exact this
  have fb' : ∀ i < 37, fnB s₀.heap (i == 16) (fnAt (adOf s₀.heap) (gAddr s₀.heap "law") i).1 = true := fun i hi => List.all_eq_true.mp fb i (List.mem_range.mpr hi)
  let GG : Gl := { prog := P, w := w, h₀ := s₁.heap, K := kOf s₀.heap, mg := s₀.heap.nsMap mainGlobals, mb := s₀.heap.nsMap builtinsNs, os := s₁.os, dr := s₁.drawn,
                   g := (Heap.Ns.of_isNs n1).keeps hk, b := (Heap.Ns.of_isNs n2).keeps hk, nolim := ⟨_, (Heap.Ns.of_isNs n3).keeps hk, Option.isNone_iff_eq_none.mp n4⟩, X := (fragAt_in _ _).keeps hk,
                   low := by obtain ⟨o, e⟩ := Option.isSome_iff_exists.mp n5; exact ⟨o, hk _ _ e⟩ }
  have ok : Ok GG (adOf s₀.heap) := ok_of (G := GG) hk rfl rfl rfl g1' g2 g3 g4 g5 bl' fb' fe c1 c2 c3 c4
  have fl : Fn GG (gAddr s₀.heap "law") ["script"] (fnScope (top 26)) (fnBody (top 26)) := fn_law hk fb' fe
  -- the address of law
  have ea : a = gAddr s₀.heap "law" := by
    obtain ⟨o1, es, ep, h1, h2, _, h3⟩ := G.T.g
    obtain ⟨o2, es', ep', h1', h2', _, h3'⟩ := GG.g
    have h1' : s₁.heap.get? mainGlobals = some o2 := h1'
    rw [h1] at h1'; cases h1'
    rw [h2] at h2'; cases h2'
    have q := (h3 "law").symm.trans (h3' "law")
    rw [hd] at hmg
    have q2 : s₀.heap.nsMap mainGlobals "law" = some (.ref (gAddr s₀.heap "law")) := isRef_eq (g1' _ (by decide))
    have q3 : some (Value.ref a) = some (.ref (gAddr s₀.heap "law")) := hmg.symm.trans (q.trans q2)
    cases q3; rfl
  -- the script
  obtain ⟨p1, p2⟩ := pre_splitW hpre
  obtain ⟨d1, r1, rfl, q1, q2⟩ := hasAllW_cons p1
  obtain rfl : r1 = [] := by
    cases r1 with
    | nil => rfl
    | cons x y => simp [WShape.hasAll] at q2
  obtain ⟨xs, rfl, q3⟩ := hasW_list q1
  have hlen := pre_len p2
  obtain ⟨v, rv, rfl⟩ : ∃ v, (∃ as', ReadsW (PySem.Challenge.rw_nt0013_01).row.toRowW.records (classAt s₀.heap) s₁.heap v (.list xs) as') ∧ vals = [v] := by
    cases hrd with
    | cons x y => cases y; exact ⟨_, ⟨_, x⟩, rfl⟩
  obtain ⟨as', rv⟩ := rv
  cases rv with
  | @list r o' vs n _ as'' hr hcl hda items =>
  obtain ⟨is, vr, il⟩ := reads_ints items q3
  have ro : Ro GG r (is.map .int) := ⟨vs, ⟨o', hr, hcl, n, hda⟩, vr, by rw [List.length_map]; omega⟩
  subst ea
  have S : StH GG (fun b => s₁.heap.get? b) (fun _ => none) s₁ := ⟨⟨rfl, rfl⟩, hg, fun _ _ e => e, fun _ _ e => e, (fun _ _ e => by cases e), (fun _ _ e => by cases e)⟩
  have key := (c_law ok (n := 0) (H := fun _ => none) (Q := fun r _ => r = .bool true) fl rm_caller ro (by omega) fun _ => rfl).cl
  refine wpAny_mono (key _ s₁ [.ref r] S (.cons (.ref _) .nil)) (fun v s' z => ?_) fun _ _ x => x.elim
  obtain ⟨rr, H', v1, S', e⟩ := z
  subst e
  cases v1
  refine GoodW.toG ⟨.inl ⟨.bool true, .bool true, [], rfl, fun _ => rfl, .bool _, ?_, fun _ => ⟨List.nodup_nil, (fun _ h => by cases h)⟩⟩, fun b o e => S'.keep b o e, S'.os.1, S'.gens⟩
  exact post_ok _ _
end Mine
set_option maxHeartbeats 4000000 in
theorem PySem.Challenge.cw_nt0013_01_holds : PySem.Challenge.rw_nt0013_01.Holds := by
  refine PySem.W.holds_law Mine.saidL fun said => ?_
  refine PySem.W.holds_openX (q := Mine.vw) (loose := Mine.looseN) (Xt := fun _ => true) (XP := fun _ _ => True) (Yf := Mine.obsAll) (Ya := Mine.expAll) (N := 4000) Mine.left (fun _ _ => trivial) (fun _ _ _ _ _ => trivial) (by rfl) (by rfl) (by rfl)
    (fun s _ => PySem.W.recFacts_of (R := []) (s := s) rfl) (by rfl) said Mine.opens Mine.bare ⟨[.list []], by decide +kernel, by decide +kernel⟩ (Mine.walk rfl)
