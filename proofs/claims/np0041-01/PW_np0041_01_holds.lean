import PyProof.Rows.All
import Wide.All
import OpenK.AllK
import Wide.FinOn
import KE.KLam
import PySem.Challenge.RW_np0041_01
set_option Elab.async false
set_option linter.unusedVariables false
set_option linter.unusedSimpArgs false
set_option genSizeOf false
noncomputable section
section
open PySem PySem.W PyProof.Rows
namespace Mine
open PySem PySem.Calls PySem.W PyProof.Rows

/-- a frozen part of the heap -/
abbrev Fz := Addr → Option Obj
noncomputable def Fz.le (F G : Fz) : Prop := ∀ a o, F a = some o → G a = some o
noncomputable def Fz.on (F : Fz) (h : Heap) : Prop := ∀ a o, F a = some o → h.get? a = some o
theorem Fz.le_refl (F : Fz) : F.le F := fun _ _ e => e
theorem Fz.le.trans {F G H : Fz} (x : F.le G) (y : G.le H) : F.le H := fun a o e => y a o (x a o e)
noncomputable def Keep (h h' : Heap) : Prop := ∀ b o, h.get? b = some o → h'.get? b = some o
theorem Keep.refl (h : Heap) : Keep h h := fun _ _ e => e
theorem Keep.trans {a b c : Heap} (x : Keep a b) (y : Keep b c) : Keep a c := fun o p e => y o p (x o p e)
theorem Fz.on.keeps {F : Fz} {h h' : Heap} (x : F.on h) (k : Keep h h') : F.on h' := fun a o e => k a o (x a o e)
theorem Keep.push (h : Heap) (o : Obj) : Keep h (h.push o) := fun _ _ e => Heap.get?_push_of_some _ e
/-- add one -/
noncomputable def Fz.add (F : Fz) (a : Addr) (o : Obj) : Fz := fun b => if b = a then some o else F b
theorem Fz.le_add {F : Fz} {a : Addr} {o : Obj} (h : F a = none) : F.le (F.add a o) := fun b p e => by
  unfold Fz.add; split
  · rename_i q; subst q; rw [h] at e; cases e
  · exact e
theorem Fz.add_self {F : Fz} {a : Addr} {o : Obj} : F.add a o a = some o := by unfold Fz.add; rw [if_pos rfl]
theorem Fz.add_ne {F : Fz} {a b : Addr} {o : Obj} (h : b ≠ a) : F.add a o b = F b := by unfold Fz.add; rw [if_neg h]

/-- values as the proofs see them -/
inductive PV where
  | int (i : Int) | bool (b : Bool) | str (l : List Nat) | none | raw (v : Value)
  | list (l : List PV) | tup (l : List PV) | view (c : List Int) (f : Int)

abbrev ks (s : String) : Str := Str.ofString s
abbrev listObj (vs : Array Value) (n : Nat) : Obj := { cls := .type "list", data := .seq vs n }
abbrev tupObj (vs : Array Value) (n : Nat) : Obj := { cls := .type "tuple", data := .seq vs n }

/-- the class of TextRow stands at this place -/
abbrev rowCls : Addr := 236

mutual
inductive Is (F : Fz) : PV → Value → Prop
  | int {i : Int} {t : Tok} : Is F (.int i) (.int i t)
  | bool {b : Bool} : Is F (.bool b) (.bool b)
  | str {l : List Nat} {t : Tok} : Is F (.str l) (.str ⟨l.toArray⟩ t)
  | none : Is F .none .none
  | raw {v : Value} : Is F (.raw v) v
  | list {ps : List PV} {a : Addr} {vs : Array Value} {n : Nat} : F a = some (listObj vs n) → Iss F ps vs.toList → Is F (.list ps) (.ref a)
  | tup {ps : List PV} {a : Addr} {vs : Array Value} {n : Nat} : F a = some (tupObj vs n) → Iss F ps vs.toList → Is F (.tup ps) (.ref a)
  | view {c : List Int} {f : Int} {a d l : Addr} {h1 h2 : Int} {t1 t2 t3 : Tok} {n m : Nat} {vs : Array Value} :
      F a = some (instObj rowCls d) → F d = some (dictOf [⟨h1, .str (ks "codes") t1, .ref l⟩, ⟨h2, .str (ks "place") t2, .int f t3⟩] n) →
      F l = some (listObj vs m) → Iss F (c.map PV.int) vs.toList → Is F (.view c f) (.ref a)
inductive Iss (F : Fz) : List PV → List Value → Prop
  | nil : Iss F [] []
  | cons {p : PV} {v : Value} {ps : List PV} {vs : List Value} : Is F p v → Iss F ps vs → Iss F (p :: ps) (v :: vs)
end

mutual
theorem Is.mono {F G : Fz} (k : F.le G) : ∀ {p : PV} {v : Value}, Is F p v → Is G p v
  | _, _, .int => .int
  | _, _, .bool => .bool
  | _, _, .str => .str
  | _, _, .none => .none
  | _, _, .raw => .raw
  | _, _, .list h r => .list (k _ _ h) (Iss.mono k r)
  | _, _, .tup h r => .tup (k _ _ h) (Iss.mono k r)
  | _, _, .view h1 h2 h3 r => .view (k _ _ h1) (k _ _ h2) (k _ _ h3) (Iss.mono k r)
theorem Iss.mono {F G : Fz} (k : F.le G) : ∀ {p : List PV} {v : List Value}, Iss F p v → Iss G p v
  | _, _, .nil => .nil
  | _, _, .cons h r => .cons (Is.mono k h) (Iss.mono k r)
end
theorem Iss.length {F : Fz} : ∀ {ps : List PV} {vs : List Value}, Iss F ps vs → ps.length = vs.length
  | _, _, .nil => rfl
  | _, _, .cons _ r => by rw [List.length_cons, List.length_cons, r.length]
theorem Iss.get {F : Fz} : ∀ {ps : List PV} {vs : List Value}, Iss F ps vs → ∀ (i : Nat) (p : PV), ps[i]? = some p → ∃ v, vs[i]? = some v ∧ Is F p v
  | _, _, .nil, i, p, h => by simp at h
  | _, _, .cons hx r, 0, p, h => by simp at h; subst h; exact ⟨_, rfl, hx⟩
  | _, _, .cons hx r, i + 1, p, h => by
    simp only [List.getElem?_cons_succ] at h ⊢
    exact r.get i p h
theorem Iss.append {F : Fz} : ∀ {ps qs : List PV} {vs us : List Value}, Iss F ps vs → Iss F qs us → Iss F (ps ++ qs) (vs ++ us)
  | _, _, _, _, .nil, y => y
  | _, _, _, _, .cons h r, y => .cons h (r.append y)
theorem Iss.take {F : Fz} : ∀ {ps : List PV} {vs : List Value} (n : Nat), Iss F ps vs → Iss F (ps.take n) (vs.take n)
  | _, _, 0, _ => by simp; exact .nil
  | _, _, _ + 1, .nil => by simp; exact .nil
  | _, _, n + 1, .cons h r => by simp only [List.take_succ_cons]; exact .cons h (r.take n)
theorem Iss.drop {F : Fz} : ∀ {ps : List PV} {vs : List Value} (n : Nat), Iss F ps vs → Iss F (ps.drop n) (vs.drop n)
  | _, _, 0, x => x
  | _, _, _ + 1, .nil => .nil
  | _, _, n + 1, .cons _ r => by simp only [List.drop_succ_cons]; exact r.drop n
theorem Iss.reverse {F : Fz} : ∀ {ps : List PV} {vs : List Value}, Iss F ps vs → Iss F ps.reverse vs.reverse
  | _, _, .nil => .nil
  | _, _, .cons h r => by simp only [List.reverse_cons]; exact r.reverse.append (.cons h .nil)
theorem Iss.of_get {F : Fz} : ∀ {ps : List PV} {vs : List Value}, ps.length = vs.length → (∀ (i : Nat) (p : PV) (v : Value), ps[i]? = some p → vs[i]? = some v → Is F p v) → Iss F ps vs
  | [], [], _, _ => .nil
  | p :: ps, v :: vs, hl, h => .cons (h 0 p v rfl rfl) (Iss.of_get (by simpa using hl) fun i q u hq hu => h (i + 1) q u (by simpa using hq) (by simpa using hu))
  | [], _ :: _, hl, _ => by simp at hl
  | _ :: _, [], hl, _ => by simp at hl

/-- what an object of the function's own is known to hold -/
inductive CV where
  | lst (l : List PV) | var (o : Option PV) | st (P : Obj → Prop)
abbrev Cells := List (Addr × CV)

noncomputable def CellAt (F : Fz) (h : Heap) (c : Addr × CV) : Prop := match c.2 with
  | .lst ps => ∃ vs, h.PlainList c.1 vs ∧ Iss F ps vs.toList
  | .var none => h.IsCell c.1 none
  | .var (some p) => ∃ v, h.IsCell c.1 (some v) ∧ Is F p v
  | .st P => ∃ o, h.get? c.1 = some o ∧ P o

theorem CellAt.mono {F G : Fz} {h h' : Heap} {c : Addr × CV} (x : CellAt F h c) (le : F.le G) (k : ∀ o, h.get? c.1 = some o → h'.get? c.1 = some o) : CellAt G h' c := by
  obtain ⟨a, cv⟩ := c
  cases cv with
  | lst ps => obtain ⟨vs, hl, hi⟩ := x; exact ⟨vs, hl.at k, hi.mono le⟩
  | var o =>
    cases o with
    | none => obtain ⟨o, ho, hd⟩ := x; exact ⟨o, k o ho, hd⟩
    | some p => obtain ⟨v, ⟨o, ho, hd⟩, hi⟩ := x; exact ⟨v, ⟨o, k o ho, hd⟩, hi.mono le⟩
  | st P => obtain ⟨o, ho, hp⟩ := x; exact ⟨o, k o ho, hp⟩
theorem CellAt.some {F : Fz} {h : Heap} {c : Addr × CV} (x : CellAt F h c) : ∃ o, h.get? c.1 = some o := by
  obtain ⟨a, cv⟩ := c
  cases cv with
  | lst ps => obtain ⟨vs, ⟨n, hl⟩, hi⟩ := x; exact ⟨_, hl⟩
  | var o =>
    cases o with
    | none => obtain ⟨o, ho, hd⟩ := x; exact ⟨o, ho⟩
    | some p => obtain ⟨v, ⟨o, ho, hd⟩, hi⟩ := x; exact ⟨o, ho⟩
  | st P => obtain ⟨o, ho, hp⟩ := x; exact ⟨o, ho⟩

inductive GetAt : List Str → List (Option PV) → Str → PV → Prop
  | head {x : Str} {ks : List Str} {p : PV} {vs : List (Option PV)} : GetAt (x :: ks) (some p :: vs) x p
  | tail {y x : Str} {ks : List Str} {o : Option PV} {p : PV} {vs : List (Option PV)} : GetAt ks vs x p → GetAt (y :: ks) (o :: vs) x p
inductive SetAt : List Str → List (Option PV) → Str → PV → List (Option PV) → Prop
  | head {x : Str} {ks : List Str} {p : PV} {o : Option PV} {vs : List (Option PV)} : SetAt (x :: ks) (o :: vs) x p (some p :: vs)
  | tail {y x : Str} {ks : List Str} {o : Option PV} {p : PV} {vs vs' : List (Option PV)} : SetAt ks vs x p vs' → SetAt (y :: ks) (o :: vs) x p (o :: vs')
theorem GetAt.mem {ks : List Str} {vs : List (Option PV)} {x : Str} {p : PV} (g : GetAt ks vs x p) : x ∈ ks := by
  induction g with
  | head => exact .head _
  | tail _ ih => exact .tail _ ih
theorem SetAt.mem {ks : List Str} {vs vs' : List (Option PV)} {x : Str} {p : PV} (g : SetAt ks vs x p vs') : x ∈ ks := by
  induction g with
  | head => exact .head _
  | tail _ ih => exact .tail _ ih
theorem SetAt.get {ks : List Str} {vs vs' : List (Option PV)} {x : Str} {p : PV} (g : SetAt ks vs x p vs') (nd : ks.Nodup) {y : Str} {q : PV} (h : GetAt ks vs' y q) :
    (y = x ∧ q = p) ∨ (y ≠ x ∧ GetAt ks vs y q) := by
  induction g with
  | head =>
    cases h with
    | head => exact .inl ⟨rfl, rfl⟩
    | tail r => exact .inr ⟨fun e => by subst e; exact (List.nodup_cons.mp nd).1 r.mem, .tail r⟩
  | tail r ih =>
    cases h with
    | head => exact .inr ⟨fun e => by subst e; exact (List.nodup_cons.mp nd).1 r.mem, .head⟩
    | tail r' =>
      rcases ih (List.nodup_cons.mp nd).2 r' with ⟨a, b⟩ | ⟨a, b⟩
      · exact .inl ⟨a, b⟩
      · exact .inr ⟨a, .tail b⟩
/-- a frame that knows less -/
inductive Fsub : List (Option PV) → List (Option PV) → Prop
  | nil : Fsub [] []
  | drop {o : Option PV} {vs vs' : List (Option PV)} : Fsub vs vs' → Fsub (o :: vs) (none :: vs')
  | keep {o : Option PV} {vs vs' : List (Option PV)} : Fsub vs vs' → Fsub (o :: vs) (o :: vs')
  | eq {p q : PV} {vs vs' : List (Option PV)} : p = q → Fsub vs vs' → Fsub (some p :: vs) (some q :: vs')
theorem Fsub.get {vs vs' : List (Option PV)} (h : Fsub vs vs') : ∀ {ks : List Str} {x : Str} {p : PV}, GetAt ks vs' x p → GetAt ks vs x p := by
  induction h with
  | nil => intro ks x p g; cases g
  | drop _ ih => intro ks x p g; cases g with | tail r => exact .tail (ih r)
  | keep _ ih => intro ks x p g; cases g with | head => exact .head | tail r => exact .tail (ih r)
  | eq e _ ih => subst e; intro ks x p g; cases g with | head => exact .head | tail r => exact .tail (ih r)
theorem Fsub.refl : ∀ vs, Fsub vs vs
  | [] => .nil
  | _ :: r => .keep (Fsub.refl r)

/-- room on the stack -/
structure Rm (k : Nat) (A : Around) : Prop where
  hd : A.handled = none
  dp : A.depth + k < recursionLimit
  un : A.units + 8 * k < cLine
theorem Rm.deeper {k : Nat} {A : Around} {env : Env} (h : Rm (k + 1) A) : Rm k (A.deeper env) :=
  ⟨h.hd, by have := h.dp; show A.depth + 1 + k < _; lia, by have := h.un; show A.units + 3 + 8 * k < _; lia⟩
theorem Rm.lt {k : Nat} {A : Around} (h : Rm k A) : A.depth < recursionLimit := by have := h.dp; lia
theorem Rm.less {k j : Nat} {A : Around} (h : Rm k A) (hj : j ≤ k) : Rm j A := ⟨h.hd, by have := h.dp; lia, by have := h.un; lia⟩

/-- what stands the same in all the proofs -/
structure Cx where
  prog : Program
  w : World
  K : Frag
  p : Program
  loose : List Str
  mg : Str → Option Value
  mb : Str → Option Value
structure CF (c : Cx) (F : Fz) : Prop where
  k : ∀ a o, c.K.lookup a = some o → F a = some o
  top : ∀ h, F.on h → TopRead c.p c.loose c.mg c.mb h
theorem CF.mono {c : Cx} {F G : Fz} (x : CF c F) (le : F.le G) : CF c G := ⟨fun a o e => le a o (x.k a o e), fun h on => x.top h fun a o e => on a o (le a o e)⟩
theorem CF.inK {c : Cx} {F : Fz} (x : CF c F) {h : Heap} (on : F.on h) : c.K.In h := fun a o e => on a o (x.k a o e)

structure Fx (c : Cx) (k : Nat) (ks gl : List Str) (cl : List (Str × Addr)) where
  A : Around
  env : Env
  s0 : Shared
  F0 : Fz
  W : Addr → Prop
  rm : Rm k A
  cf : CF c F0
  kind : env.scope.kind = .function
  glob : env.globals = mainGlobals
  blt : env.builtins = builtinsNs
  above : s0.heap.objs.size ≤ env.locals
  nd : ks.Nodup
  loc : ∀ x ∈ ks, env.kindOf x = some .local
  gls : ∀ x ∈ gl, env.kindOf x = some .globalImplicit
  cls : ∀ x ∈ cl, (env.kindOf x.1 = some .cell ∨ env.kindOf x.1 = some .free) ∧ env.cells.lookup x.1 = some x.2

section
variable {c : Cx} {k : Nat} {ks gl : List Str} {cl : List (Str × Addr)}

structure InvF (X : Fx c k ks gl cl) (F : Fz) (vs : List (Option PV)) (cs : Cells) (ts : List (Value × PV)) (s : Shared) : Prop where
  st : ∃ h tk, s = { X.s0 with heap := h, toks := tk }
  on : F.on s.heap
  le : X.F0.le F
  fresh : ∀ a o, X.s0.heap.get? a = some o → X.F0 a = none → F a = none
  keep : ∀ a o, X.s0.heap.get? a = some o → ¬ X.W a → s.heap.get? a = some o
  wr : ∀ a, X.W a → F a = none ∧ ∃ o, s.heap.get? a = some o
  loc : ∃ m, s.heap.Ns X.env.locals m ∧ ∀ x p, GetAt ks vs x p → ∃ v, m x = some v ∧ Is F p v
  nL : F X.env.locals = none ∧ ¬ X.W X.env.locals
  cell : ∀ z ∈ cs, CellAt F s.heap z ∧ F z.1 = none ∧ z.1 ≠ X.env.locals ∧ (X.W z.1 ∨ X.s0.heap.get? z.1 = none)
  nd : (cs.map (·.1)).Nodup
  tmp : ∀ t ∈ ts, Is F t.2 t.1

noncomputable def Inv (X : Fx c k ks gl cl) (vs : List (Option PV)) (cs : Cells) (ts : List (Value × PV)) (s : Shared) : Prop := ∃ F, InvF X F vs cs ts s

variable {X : Fx c k ks gl cl} {F : Fz} {vs vs' : List (Option PV)} {cs cs' : Cells} {ts ts' : List (Value × PV)} {s : Shared}

theorem InvF.inK (x : InvF X F vs cs ts s) : c.K.In s.heap := (X.cf.mono x.le).inK x.on
theorem InvF.top (x : InvF X F vs cs ts s) : TopRead c.p c.loose c.mg c.mb s.heap := (X.cf.mono x.le).top _ x.on
theorem InvF.big (x : InvF X F vs cs ts s) : X.s0.heap.objs.size < s.heap.objs.size := by
  obtain ⟨m, hn, _⟩ := x.loc
  exact Nat.lt_of_le_of_lt X.above hn.lt
theorem InvF.new (x : InvF X F vs cs ts s) {a : Addr} (ha : s.heap.objs.size ≤ a) : F a = none := by
  cases e : F a with
  | none => rfl
  | some o => exact absurd (Heap.lt_size (x.on a o e)) (Nat.not_lt.mpr ha)

/-- the heap has grown -/
theorem InvF.keeps (x : InvF X F vs cs ts s) {h : Heap} {t : Nat} (kp : Keep s.heap h) : InvF X F vs cs ts { s with heap := h, toks := t } where
  st := by obtain ⟨h0, t0, e⟩ := x.st; exact ⟨h, t, by rw [e]⟩
  on := x.on.keeps kp
  le := x.le
  fresh := x.fresh
  keep := fun a o e n => kp _ _ (x.keep a o e n)
  wr := fun a ha => let ⟨h1, o, h2⟩ := x.wr a ha; ⟨h1, o, kp _ _ h2⟩
  loc := let ⟨m, hn, hm⟩ := x.loc; ⟨m, hn.keeps kp, hm⟩
  nL := x.nL
  cell := fun z hz => let ⟨h1, h2⟩ := x.cell z hz; ⟨h1.mono (Fz.le_refl _) (kp _), h2⟩
  nd := x.nd
  tmp := x.tmp
theorem Inv.keeps (x : Inv X vs cs ts s) {h : Heap} {t : Nat} (kp : Keep s.heap h) : Inv X vs cs ts { s with heap := h, toks := t } := let ⟨F, y⟩ := x; ⟨F, y.keeps kp⟩
theorem Inv.tok (x : Inv X vs cs ts s) {t : Nat} : Inv X vs cs ts { s with toks := t } := x.keeps (Keep.refl _)

/-- more is frozen -/
theorem InvF.grow (x : InvF X F vs cs ts s) {G : Fz} (le : F.le G) (on : G.on s.heap) (fr : ∀ a o, s.heap.get? a = some o → F a = none → (a = X.env.locals ∨ X.W a ∨ (∃ z ∈ cs, z.1 = a) ∨ ∃ o, X.s0.heap.get? a = some o) → G a = none) : InvF X G vs cs ts s where
  st := x.st
  on := on
  le := x.le.trans le
  fresh := fun a o e n => by
    have h1 := x.fresh a o e n
    by_cases hw : X.W a
    · obtain ⟨_, o', h2⟩ := x.wr a hw; exact fr a o' h2 h1 (.inr (.inl hw))
    · exact fr a o (x.keep a o e hw) h1 (.inr (.inr (.inr ⟨o, e⟩)))
  keep := x.keep
  wr := fun a ha => let ⟨h1, o, h2⟩ := x.wr a ha; ⟨fr a o h2 h1 (.inr (.inl ha)), o, h2⟩
  loc := let ⟨m, hn, hm⟩ := x.loc; ⟨m, hn, fun y p g => let ⟨v, h1, h2⟩ := hm y p g; ⟨v, h1, h2.mono le⟩⟩
  nL := by
    obtain ⟨m, ⟨o, _, _, ho, _⟩, _⟩ := x.loc
    exact ⟨fr _ o ho x.nL.1 (.inl rfl), x.nL.2⟩
  cell := fun z hz => by
    obtain ⟨h1, h2, h3⟩ := x.cell z hz
    obtain ⟨o, ho⟩ := h1.some
    exact ⟨h1.mono le fun _ e => e, fr _ o ho h2 (.inr (.inr (.inl ⟨z, hz, rfl⟩))), h3⟩
  nd := x.nd
  tmp := fun t ht => (x.tmp t ht).mono le

theorem InvF.push (x : InvF X F vs cs ts s) (p : PV) (v : Value) (h : Is F p v) : InvF X F vs cs ((v, p) :: ts) s :=
  ⟨x.st, x.on, x.le, x.fresh, x.keep, x.wr, x.loc, x.nL, x.cell, x.nd, fun t ht => by
    rcases List.mem_cons.mp ht with rfl | ht
    · exact h
    · exact x.tmp t ht⟩
theorem InvF.sub (x : InvF X F vs cs ts s) (h : ∀ t ∈ ts', t ∈ ts) : InvF X F vs cs ts' s := { x with tmp := fun t ht => x.tmp t (h t ht) }
theorem Inv.sub (x : Inv X vs cs ts s) (h : ∀ t ∈ ts', t ∈ ts) : Inv X vs cs ts' s := let ⟨F, y⟩ := x; ⟨F, y.sub h⟩
theorem Inv.nil (x : Inv X vs cs ts s) : Inv X vs cs [] s := x.sub fun _ h => nomatch h
theorem Inv.int (x : Inv X vs cs ts s) {i : Int} {t : Tok} : Inv X vs cs ((.int i t, .int i) :: ts) s := let ⟨F, y⟩ := x; ⟨F, y.push _ _ .int⟩
theorem Inv.bool (x : Inv X vs cs ts s) {b : Bool} : Inv X vs cs ((.bool b, .bool b) :: ts) s := let ⟨F, y⟩ := x; ⟨F, y.push _ _ .bool⟩
theorem Inv.str (x : Inv X vs cs ts s) {l : List Nat} {t : Tok} : Inv X vs cs ((.str ⟨l.toArray⟩ t, .str l) :: ts) s := let ⟨F, y⟩ := x; ⟨F, y.push _ _ .str⟩
theorem Inv.none (x : Inv X vs cs ts s) : Inv X vs cs ((.none, .none) :: ts) s := let ⟨F, y⟩ := x; ⟨F, y.push _ _ .none⟩
theorem Inv.raw (x : Inv X vs cs ts s) {v : Value} : Inv X vs cs ((v, .raw v) :: ts) s := let ⟨F, y⟩ := x; ⟨F, y.push _ _ .raw⟩
theorem Inv.tint (x : Inv X vs cs ((v, .int i) :: ts) s) : ∃ t, v = .int i t := by obtain ⟨F, y⟩ := x; cases y.tmp _ (.head _); exact ⟨_, rfl⟩
theorem Inv.tbool (x : Inv X vs cs ((v, .bool b) :: ts) s) : v = .bool b := by obtain ⟨F, y⟩ := x; cases y.tmp _ (.head _); rfl
theorem Inv.tstr (x : Inv X vs cs ((v, .str l) :: ts) s) : ∃ t, v = .str ⟨l.toArray⟩ t := by obtain ⟨F, y⟩ := x; cases y.tmp _ (.head _); exact ⟨_, rfl⟩
theorem Is.traw {F : Fz} {v u : Value} (h : Is F (.raw u) v) : v = u := by cases h; rfl
theorem Inv.traw (x : Inv X vs cs ((v, .raw u) :: ts) s) : v = u := by obtain ⟨F, y⟩ := x; exact (y.tmp _ (.head _)).traw
theorem Inv.pop (x : Inv X vs cs (t :: ts) s) : Inv X vs cs ts s := x.sub fun _ h => .tail _ h
theorem Inv.pop2 (x : Inv X vs cs (t :: u :: ts) s) : Inv X vs cs ts s := x.sub fun _ h => .tail _ (.tail _ h)
theorem Inv.swap (x : Inv X vs cs (t :: u :: ts) s) : Inv X vs cs (u :: t :: ts) s := x.sub fun y h => by
  rcases List.mem_cons.mp h with rfl | h
  · exact .tail _ (.head _)
  · rcases List.mem_cons.mp h with rfl | h
    · exact .head _
    · exact .tail _ (.tail _ h)

/-- a new object that is frozen at once -/
theorem InvF.alloc (x : InvF X F vs cs ts s) (o : Obj) (hf : o.isFreed = false := by rfl) :
    InvF X (F.add s.heap.objs.size o) vs cs ts { s with heap := s.heap.push o } := by
  have y := x.keeps (t := s.toks) (Keep.push s.heap o)
  have hn : F s.heap.objs.size = none := x.new (Nat.le_refl _)
  refine y.grow (Fz.le_add hn) (fun a p e => ?_) (fun a p e n hc => ?_)
  · by_cases q : a = s.heap.objs.size
    · subst q; rw [Fz.add_self] at e; cases e; exact Heap.get?_push_size _ hf
    · rw [Fz.add_ne q] at e; exact y.on a p e
  · have q : a ≠ s.heap.objs.size := by
      rcases hc with rfl | hw | ⟨z, hz, rfl⟩ | ⟨o', h'⟩
      · obtain ⟨m, hn, _⟩ := x.loc; exact Nat.ne_of_lt hn.lt
      · obtain ⟨_, o', h'⟩ := x.wr a hw; exact Nat.ne_of_lt (Heap.lt_size h')
      · obtain ⟨o', h'⟩ := (x.cell z hz).1.some; exact Nat.ne_of_lt (Heap.lt_size h')
      · exact Nat.ne_of_lt (Nat.lt_trans (Heap.lt_size h') x.big)
    rw [Fz.add_ne q]; exact n

/-- the frame turns -/
theorem InvF.setLocal (x : InvF X F vs cs ts s) {y : Str} {p : PV} {v : Value} (hs : SetAt ks vs y p vs') (hv : Is F p v) {m : Str → Option Value} {h' : Heap} {t : Nat}
    (hm : ∀ y p, GetAt ks vs y p → ∃ v, m y = some v ∧ Is F p v) (hn : h'.Ns X.env.locals (fun z => if z = y then some v else m z)) (sb : Heap.SameBut X.env.locals s.heap h') :
    InvF X F vs' cs ts { s with heap := h', toks := t } := by
  have ne : ∀ a o, F a = some o → a ≠ X.env.locals := fun a o e q => by subst q; rw [x.nL.1] at e; cases e
  refine ⟨?_, fun a o e => ?_, x.le, x.fresh, fun a o e n => ?_, fun a ha => ?_, ⟨_, hn, fun z q g => ?_⟩, x.nL, fun z hz => ?_, x.nd, x.tmp⟩
  · obtain ⟨h0, t0, e⟩ := x.st; exact ⟨h', t, by rw [e]⟩
  · exact sb.extBut a o (ne a o e) (x.on a o e)
  · refine sb.extBut a o (fun q => ?_) (x.keep a o e n)
    exact absurd (Nat.lt_of_lt_of_le (Heap.lt_size e) X.above) (by rw [q]; exact Nat.lt_irrefl _)
  · obtain ⟨h1, o, h2⟩ := x.wr a ha
    exact ⟨h1, o, sb.extBut a o (fun q => x.nL.2 (q ▸ ha)) h2⟩
  · rcases hs.get X.nd g with ⟨rfl, rfl⟩ | ⟨h1, h2⟩
    · exact ⟨v, by simp, hv⟩
    · obtain ⟨u, h3, h4⟩ := hm z q h2
      exact ⟨u, by simp [h1, h3], h4⟩
  · obtain ⟨h1, h2, h3, h4⟩ := x.cell z hz
    exact ⟨h1.mono (Fz.le_refl _) fun o e => sb.extBut _ o h3 e, h2, h3, h4⟩
theorem Inv.fsub (x : Inv X vs cs ts s) (h : Fsub vs vs') : Inv X vs' cs ts s := let ⟨F, y⟩ := x; ⟨F, { y with loc := let ⟨m, hn, hm⟩ := y.loc; ⟨m, hn, fun z p g => hm z p (h.get g)⟩ }⟩

/-- what a call leaves -/
structure PostF (F : Fz) (s : Shared) (G : Fz) (s' : Shared) (W : List Addr) : Prop where
  st : ∃ h tk, s' = { s with heap := h, toks := tk }
  le : F.le G
  on : G.on s'.heap
  fresh : ∀ a o, s.heap.get? a = some o → F a = none → G a = none
  keep : ∀ a o, s.heap.get? a = some o → a ∉ W → s'.heap.get? a = some o

theorem InvF.post0 (x : InvF X F vs cs ts s) {G : Fz} {s' : Shared} (p : PostF F s G s' []) : InvF X G vs cs ts s' := by
  obtain ⟨h, tk, rfl⟩ := p.st
  have kp : Keep s.heap h := fun a o e => p.keep a o e (by simp)
  exact (x.keeps (t := tk) kp).grow p.le p.on fun a o e n hc => by
    rcases hc with rfl | hw | ⟨z, hz, rfl⟩ | ⟨o', h'⟩
    · obtain ⟨m, ⟨o', _, _, ho, _⟩, _⟩ := x.loc; exact p.fresh _ o' ho n
    · obtain ⟨_, o', h'⟩ := x.wr a hw; exact p.fresh _ _ h' n
    · obtain ⟨o', h'⟩ := (x.cell z hz).1.some; exact p.fresh _ _ h' n
    · by_cases hw : X.W a
      · obtain ⟨_, o'', h''⟩ := x.wr a hw; exact p.fresh _ _ h'' n
      · exact p.fresh _ _ (x.keep a o' h' hw) n

/-- contracts: what a call of f with these values gives -/
noncomputable def FnM (c : Cx) (k : Nat) (f : Value) (ps : List PV) (cs : Cells) (r : PV) (cs' : Cells) : Prop :=
  ∀ A s F us, Rm k A → CF c F → F.on s.heap → Iss F ps us → (∀ z ∈ cs, CellAt F s.heap z ∧ F z.1 = none) → (cs.map (·.1)).Nodup →
    codeAny (model c.prog c.w) A (.call f ⟨us, []⟩) (fun res s' => ∃ v G, res = .ok (.ret v) ∧ PostF F s G s' (cs.map (·.1)) ∧ Is G r v ∧ ∀ z ∈ cs', CellAt G s'.heap z) s
abbrev FnP (c : Cx) (k : Nat) (f : Value) (ps : List PV) (r : PV) : Prop := FnM c k f ps [] r []

/-- expressions, arguments, tests, statements -/
noncomputable def Ev (X : Fx c k ks gl cl) (vs : List (Option PV)) (cs : Cells) (e : Expr) (p : PV) (cs' : Cells) : Prop :=
  ∀ ts s, Inv X vs cs ts s → wpAny (model c.prog c.w) X.A (eval e X.env) (fun v s' => Inv X vs cs' ((v, p) :: ts) s') (fun _ _ => False) s
noncomputable def EvL (X : Fx c k ks gl cl) (vs : List (Option PV)) (cs : Cells) (pos : Pos) (es : List Expr) (ps : List PV) (cs' : Cells) : Prop :=
  ∀ ts s, Inv X vs cs ts s → wpAny (model c.prog c.w) X.A (spliced (backTo pos (starEach es X.env))) (fun us s' => us.length = ps.length ∧ Inv X vs cs' (us.zip ps ++ ts) s') (fun _ _ => False) s
noncomputable def ET (X : Fx c k ks gl cl) (vs : List (Option PV)) (cs : Cells) (e : Expr) (b : Bool) (cs' : Cells) : Prop :=
  ∀ ts s, Inv X vs cs ts s → wpAny (model c.prog c.w) X.A (isTrue e X.env (eval e X.env)) (fun v s' => v = b ∧ Inv X vs cs' ts s') (fun _ _ => False) s
noncomputable def ExPost (X : Fx c k ks gl cl) (ts : List (Value × PV)) (N : List (Option PV) → Cells → Prop) (R : PV → Cells → Prop) (fl : Flow) (s' : Shared) : Prop := match fl with
  | .next => ∃ vs cs, N vs cs ∧ Inv X vs cs ts s'
  | .ret v => ∃ p vs cs, R p cs ∧ Inv X vs cs ((v, p) :: ts) s'
  | _ => False
noncomputable def Ex (X : Fx c k ks gl cl) (vs : List (Option PV)) (cs : Cells) (ss : List Stmt) (N : List (Option PV) → Cells → Prop) (R : PV → Cells → Prop) : Prop :=
  ∀ ts s, Inv X vs cs ts s → wpAny (model c.prog c.w) X.A (execs ss X.env) (ExPost X ts N R) (fun _ _ => False) s
end
end Mine

end
section
open PySem PySem.W PyProof.Rows
namespace Mine
open PySem PySem.Calls PySem.W PyProof.Rows

section
variable {c : Cx} {k : Nat} {ks gl : List Str} {cl : List (Str × Addr)} {X : Fx c k ks gl cl} {F : Fz} {vs vs' : List (Option PV)} {cs cs1 cs2 cs3 : Cells} {ts ts' : List (Value × PV)} {s : Shared}

theorem InvF.ns (x : InvF X F vs cs ts s) {y : Str} {p : PV} (g : GetAt ks vs y p) : ∃ m v, s.heap.Ns X.env.locals m ∧ m y = some v ∧ Is F p v := by
  obtain ⟨m, hn, hm⟩ := x.loc
  obtain ⟨v, h1, h2⟩ := hm y p g
  exact ⟨m, v, hn, h1, h2⟩

theorem wm {α : Type} {M : Model} {A : Around} {t : Sem α} {Q Q' : α → Shared → Prop} {E : Value → Shared → Prop} {s : Shared} (h : wpAny M A t Q E s) (hQ : ∀ a s, Q a s → Q' a s) : wpAny M A t Q' E s :=
  wpAny_mono h hQ fun _ _ e => e

theorem ev_local {x : Str} {p : PV} {pos : Pos} (g : GetAt ks vs x p) (hd : (x == ("__debug__" : Str)) = false := by decide) : Ev X vs cs (.Name x pos) p cs := by
  intro ts s ⟨F, i⟩
  obtain ⟨m, v, hn, hv, hi⟩ := i.ns g
  exact wpAny_Name (wpAny_loadName_local X.kind (X.loc x g.mem) hn hv ⟨F, i.push _ _ hi⟩) hd

theorem ev_cell {x : Str} {p : PV} {pos : Pos} {a : Addr} (g : (x, a) ∈ cl) (hc : (a, CV.var (some p)) ∈ cs) (hd : (x == ("__debug__" : Str)) = false := by decide) (hn : (x == ("__classdict__" : Str)) = false := by decide) : Ev X vs cs (.Name x pos) p cs := by
  intro ts s ⟨F, i⟩
  obtain ⟨⟨v, hv, hi⟩, _⟩ := i.cell _ hc
  obtain ⟨h1, h2⟩ := X.cls _ g
  rcases h1 with h1 | h1
  · exact wpAny_Name (wpAny_loadName_cell X.kind h1 h2 hv ⟨F, i.push _ _ hi⟩) hd
  · exact wpAny_Name (wpAny_loadName_free X.kind h1 h2 hv ⟨F, i.push _ _ hi⟩ hn) hd

/-- a cell that stands in the frozen part -/
theorem ev_free {x : Str} {p : PV} {pos : Pos} {a : Addr} {o : Obj} {v : Value} (g : (x, a) ∈ cl) (ho : X.F0 a = some o) (hd' : o.data = .cell (some v)) (hi : Is X.F0 p v) (hd : (x == ("__debug__" : Str)) = false := by decide) (hn : (x == ("__classdict__" : Str)) = false := by decide) : Ev X vs cs (.Name x pos) p cs := by
  intro ts s ⟨F, i⟩
  have hv : s.heap.IsCell a (some v) := ⟨o, i.on _ _ (i.le _ _ ho), hd'⟩
  obtain ⟨h1, h2⟩ := X.cls _ g
  rcases h1 with h1 | h1
  · exact wpAny_Name (wpAny_loadName_cell X.kind h1 h2 hv ⟨F, i.push _ _ (hi.mono i.le)⟩) hd
  · exact wpAny_Name (wpAny_loadName_free X.kind h1 h2 hv ⟨F, i.push _ _ (hi.mono i.le)⟩ hn) hd

theorem ev_global {x : Str} {p : PV} {v : Value} {pos : Pos} (g : x ∈ gl) (hv : nsIn c.K mainGlobals x = some (some v)) (hp : ∀ F, CF c F → Is F p v) (hd : (x == ("__debug__" : Str)) = false := by decide) : Ev X vs cs (.Name x pos) p cs := by
  intro ts s ⟨F, i⟩
  have T := i.top
  refine Name_function_global X.kind (X.gls x g) (loadGlobal_global (by rw [X.glob]; exact T.g) (mg_of i.inK T.g hv) ?_) hd
  exact ⟨F, i.push _ _ (hp F (X.cf.mono i.le))⟩
theorem ev_globalR {x : Str} {v : Value} {pos : Pos} (g : x ∈ gl) (hv : nsIn c.K mainGlobals x = some (some v)) (hd : (x == ("__debug__" : Str)) = false := by decide) : Ev X vs cs (.Name x pos) (.raw v) cs :=
  ev_global g hv (fun _ _ => .raw) hd
theorem ev_builtin {x : Str} {v : Value} {pos : Pos} (g : x ∈ gl) (hv : nsIn c.K mainGlobals x = some none) (hb : bootBuiltins x = some v) (hn : x ≠ "__name__") (hd : (x == ("__debug__" : Str)) = false := by decide) : Ev X vs cs (.Name x pos) (.raw v) cs := by
  intro ts s ⟨F, i⟩
  have T := i.top
  refine Name_function_global X.kind (X.gls x g) (loadGlobal_builtin (by rw [X.glob]; exact T.g) (mg_none_of i.inK T.g hv) (by rw [X.blt]; exact T.b) ((T.builtins x hn).trans hb) ?_) hd
  exact ⟨F, i.push _ _ .raw⟩

theorem ev_int {i : Int} {kk : Nat} {pos : Pos} : Ev X vs cs (.Constant (.int i) kk pos) (.int i) cs := fun _ _ i => wpAny_Constant_int i.tok.int
theorem ev_bool {b : Bool} {kk : Nat} {pos : Pos} : Ev X vs cs (.Constant (.bool b) kk pos) (.bool b) cs := fun _ _ i => wpAny_pure i.bool
theorem ev_str {x : Str} {l : List Nat} {kk : Nat} {pos : Pos} (h : x = ⟨l.toArray⟩) : Ev X vs cs (.Constant (.str x) kk pos) (.str l) cs := fun _ _ i => by subst h; exact Constant_str i.tok.str

/-- a place in the code where two values meet -/
noncomputable def OpR (X : Fx c k ks gl cl) (op : Operator) (p q r : PV) : Prop :=
  ∀ vs cs ts s u v, Inv X vs cs ((v, q) :: (u, p) :: ts) s → wpAny (model c.prog c.w) X.A (binaryOp op u v) (fun y s' => Inv X vs cs ((y, r) :: ts) s') (fun _ _ => False) s
theorem ev_bin {a b : Expr} {op : Operator} {pos : Pos} {p q r : PV} (ha : Ev X vs cs a p cs1) (hb : Ev X vs cs1 b q cs2) (h : OpR X op p q r) : Ev X vs cs (.BinOp a op b pos) r cs2 :=
  fun ts s i => wpAny_BinOp (wm (ha ts s i) fun u s1 i1 => wm (hb _ s1 i1) fun v s2 i2 => h _ _ _ _ _ _ i2)
theorem Inv.ints {i j : Int} {u v : Value} (x : Inv X vs cs ((v, .int j) :: (u, .int i) :: ts) s) : ∃ t t', u = .int i t ∧ v = .int j t' := by
  obtain ⟨t, e⟩ := x.tint; obtain ⟨t', e'⟩ := x.pop.tint; exact ⟨t', t, e', e⟩
theorem op_add {i j : Int} : OpR X .Add (.int i) (.int j) (.int (i + j)) := fun _ _ _ _ _ _ x => by
  obtain ⟨t, t', rfl, rfl⟩ := x.ints; exact add_int x.pop2.tok.int
theorem op_sub {i j : Int} : OpR X .Sub (.int i) (.int j) (.int (i - j)) := fun _ _ _ _ _ _ x => by
  obtain ⟨t, t', rfl, rfl⟩ := x.ints; exact sub_int x.pop2.tok.int
theorem op_mul {i j : Int} (h : IntMulOk i j) : OpR X .Mult (.int i) (.int j) (.int (i * j)) := fun _ _ _ _ _ _ x => by
  obtain ⟨t, t', rfl, rfl⟩ := x.ints; exact mul_int x.pop2.tok.int h
theorem op_mod {i j : Int} (h : 0 < j) : OpR X .Mod (.int i) (.int j) (.int (i % j)) := fun _ _ _ _ _ _ x => by
  obtain ⟨t, t', rfl, rfl⟩ := x.ints
  refine mod_int' (by lia) ?_
  rw [Int.fmod_eq_emod_of_nonneg _ (by lia)]; exact x.pop2.tok.int
theorem op_div {i j : Int} (h : 0 < j) (hp : Builtin.divisionGoesByPylong i j = false) : OpR X .FloorDiv (.int i) (.int j) (.int (i / j)) := fun _ _ _ _ _ _ x => by
  obtain ⟨t, t', rfl, rfl⟩ := x.ints
  refine floordiv_int (by lia) ?_ (.inl hp)
  rw [Int.fdiv_eq_ediv_of_nonneg _ (by lia)]; exact x.pop2.tok.int
theorem op_pow {i j : Int} (h : 0 ≤ j) (hb : (Builtin.Int.intBits i : Int) * j ≤ 2 ^ 27) : OpR X .Pow (.int i) (.int j) (.int (i ^ j.toNat)) := fun _ _ _ _ _ _ x => by
  obtain ⟨t, t', rfl, rfl⟩ := x.ints; exact pow_int h hb x.pop2.tok.int
theorem Inv.strs {i j : List Nat} {u v : Value} (x : Inv X vs cs ((v, .str j) :: (u, .str i) :: ts) s) : ∃ t t', u = .str ⟨i.toArray⟩ t ∧ v = .str ⟨j.toArray⟩ t' := by
  obtain ⟨t, e⟩ := x.tstr; obtain ⟨t', e'⟩ := x.pop.tstr; exact ⟨t', t, e', e⟩
theorem str_app (i j : List Nat) : (⟨i.toArray⟩ : Str) ++ (⟨j.toArray⟩ : Str) = ⟨(i ++ j).toArray⟩ := by
  show Str.append _ _ = _
  simp [Str.append]
theorem op_adds {i j : List Nat} (h : i.length + j.length ≤ 16777216) : OpR X .Add (.str i) (.str j) (.str (i ++ j)) := fun _ _ _ _ _ _ x => by
  obtain ⟨t, t', rfl, rfl⟩ := x.strs
  refine add_str (fun t' tk => ?_) (by rw [sizeLine_eq]; exact h)
  rw [str_app]; exact x.pop2.tok.str

/-- comparisons -/
noncomputable def CpR (X : Fx c k ks gl cl) (op : CmpOp) (p q : PV) (b : Bool) : Prop :=
  ∀ vs cs ts s u v, Inv X vs cs ((v, q) :: (u, p) :: ts) s → wpAny (model c.prog c.w) X.A (compareOp op u v) (fun y s' => y = .bool b ∧ Inv X vs cs ((v, q) :: (u, p) :: ts) s') (fun _ _ => False) s
theorem cp_lt {i j : Int} : CpR X .Lt (.int i) (.int j) (decide (i < j)) := fun _ _ _ _ _ _ x => by
  obtain ⟨t, t', rfl, rfl⟩ := x.ints; exact lt_int ⟨rfl, x⟩
theorem cp_le {i j : Int} : CpR X .LtE (.int i) (.int j) (decide (i ≤ j)) := fun _ _ _ _ _ _ x => by
  obtain ⟨t, t', rfl, rfl⟩ := x.ints; exact le_int ⟨rfl, x⟩
theorem cp_gt {i j : Int} : CpR X .Gt (.int i) (.int j) (decide (j < i)) := fun _ _ _ _ _ _ x => by
  obtain ⟨t, t', rfl, rfl⟩ := x.ints; exact gt_int ⟨rfl, x⟩
theorem cp_ge {i j : Int} : CpR X .GtE (.int i) (.int j) (decide (j ≤ i)) := fun _ _ _ _ _ _ x => by
  obtain ⟨t, t', rfl, rfl⟩ := x.ints; exact ge_int ⟨rfl, x⟩
theorem cp_eq {i j : Int} : CpR X .Eq (.int i) (.int j) (decide (i = j)) := fun _ _ _ _ _ _ x => by
  obtain ⟨t, t', rfl, rfl⟩ := x.ints; exact eq_int ⟨rfl, x⟩
theorem cp_ne {i j : Int} : CpR X .NotEq (.int i) (.int j) (!decide (i = j)) := fun _ _ _ _ _ _ x => by
  obtain ⟨t, t', rfl, rfl⟩ := x.ints; exact ne_int ⟨rfl, x⟩
theorem str_beq (i j : List Nat) : ((⟨i.toArray⟩ : Str) == (⟨j.toArray⟩ : Str)) = decide (i = j) := by
  by_cases h : i = j
  · subst h; simp
  · simp [h]
theorem cp_eqs {i j : List Nat} : CpR X .Eq (.str i) (.str j) (decide (i = j)) := fun _ _ _ _ _ _ x => by
  obtain ⟨t, t', rfl, rfl⟩ := x.strs; exact eq_str ⟨by rw [str_beq], x⟩
theorem cp_nes {i j : List Nat} : CpR X .NotEq (.str i) (.str j) (!decide (i = j)) := fun _ _ _ _ _ _ x => by
  obtain ⟨t, t', rfl, rfl⟩ := x.strs; exact ne_str ⟨by rw [bne, str_beq], x⟩

theorem ev_cmp {a b : Expr} {op : CmpOp} {pos : Pos} {p q : PV} {r : Bool} (ha : Ev X vs cs a p cs1) (hb : Ev X vs cs1 b q cs2) (h : CpR X op p q r) (hm : behindInMarks op b = false := by with_unfolding_all rfl) : Ev X vs cs (.Compare a [op] [b] pos) (.bool r) cs2 :=
  fun ts s i => wpAny_Compare1 (wm (ha ts s i) fun u s1 i1 => wm (hb _ s1 i1) fun v s2 i2 => wm (h _ _ _ _ _ _ i2) fun y s3 ⟨e, i3⟩ => by subst e; exact i3.pop2.bool) hm
theorem et_cmp {a b : Expr} {op : CmpOp} {pos : Pos} {p q : PV} {r : Bool} (ha : Ev X vs cs a p cs1) (hb : Ev X vs cs1 b q cs2) (h : CpR X op p q r) (hm : behindInMarks op b = false := by with_unfolding_all rfl) : ET X vs cs (.Compare a [op] [b] pos) r cs2 :=
  fun ts s i => wpAny_isTrue_Compare1 (wm (ha ts s i) fun u s1 i1 => wm (hb _ s1 i1) fun v s2 i2 => wm (h _ _ _ _ _ _ i2) fun y s3 ⟨e, i3⟩ => by subst e; exact wpAny_truthy_bool ⟨rfl, i3.pop2⟩) hm

theorem wpAny_rel {M : Model} {A : Around} {E : Value → Shared → Prop} {s : Shared} {a b : List Value} {Q : Unit → Shared → Prop} (h : Q () s) : wpAny M A (release a b) Q E s := fun Γ p hΓ => by
  rw [Sem.wp_release]; exact h
theorem wpAny_oper {M : Model} {A : Around} {E : Value → Shared → Prop} {s : Shared} {a : List Value} {m : Sem Value} {Q : Value → Shared → Prop} (h : wpAny M A m Q E s) : wpAny M A (operate a m) Q E s := fun Γ p hΓ => by
  rw [Sem.wp_operate]; exact h Γ p hΓ
theorem Inv.skip3 {a b d : Value × PV} (x : Inv X vs cs (a :: b :: d :: ts) s) : Inv X vs cs (a :: b :: ts) s := x.sub fun t ht => by
  rcases List.mem_cons.mp ht with rfl | ht
  · exact .head _
  · rcases List.mem_cons.mp ht with rfl | ht
    · exact .tail _ (.head _)
    · exact .tail _ (.tail _ (.tail _ ht))
theorem et_cmp2 {a b d : Expr} {op op' : CmpOp} {pos : Pos} {p q r : PV} {x y : Bool} (ha : Ev X vs cs a p cs1) (hb : Ev X vs cs1 b q cs2) (h : CpR X op p q x) (hd : x = true → Ev X vs cs2 d r cs2) (h' : CpR X op' q r y)
    (hm : markedEach [op, op'] [b, d] (evalEach [b, d] X.env) = [eval b X.env, eval d X.env] := by with_unfolding_all rfl) : ET X vs cs (.Compare a [op, op'] [b, d] pos) (x && y) cs2 := by
  intro ts s i
  show wpAny _ _ (eval a X.env >>= fun v => testChain pos v [op, op'] (markedEach [op, op'] [b, d] (evalEach [b, d] X.env))) _ _ _
  rw [hm]
  refine wpAny_bind (wm (ha ts s i) fun u s1 i1 => ?_)
  unfold testChain
  refine wpAny_bind (wpAny_holding (wm (hb _ s1 i1) fun v s2 i2 => wpAny_bind (wpAny_standAt (wpAny_bind (wpAny_holding (wm (h _ _ _ _ _ _ i2) fun e s3 ⟨he, i3⟩ => ?_))))))
  subst he
  refine wpAny_bind (wpAny_rel ?_)
  refine wpAny_bind (wpAny_holding (wpAny_truthy_bool ?_))
  cases x with
  | false => exact wpAny_pure ⟨rfl, i3.pop2⟩
  | true =>
    rw [if_pos rfl]
    unfold testChain
    refine wpAny_bind (wpAny_holding (wm (hd rfl _ s3 i3) fun z s4 i4 => wpAny_bind (wpAny_standAt (wpAny_bind (wpAny_oper ?_)))))
    exact wm (h' _ _ _ _ _ _ i4.skip3) fun w s5 ⟨e, i5⟩ => by subst e; exact wpAny_holding (wpAny_truthy_bool ⟨rfl, i5.pop2⟩)
end
end Mine

end
section
open PySem PySem.W PyProof.Rows
namespace Mine
open PySem PySem.Calls PySem.W PyProof.Rows

section
variable {c : Cx} {k : Nat} {ks gl : List Str} {cl : List (Str × Addr)} {X : Fx c k ks gl cl} {F : Fz} {vs vs1 vs' : List (Option PV)} {cs cs1 cs2 cs3 : Cells} {ts ts' : List (Value × PV)} {s : Shared}
  {N : List (Option PV) → Cells → Prop} {R : PV → Cells → Prop}

/-! tests -/
theorem et_value {e : Expr} {b : Bool} (h : Ev X vs cs e (.bool b) cs1)
    (hs : isTrue e X.env (eval e X.env) = (do let v ← eval e X.env; standAt e.pos; holding [v] (truthy v)) := by with_unfolding_all rfl) : ET X vs cs e b cs1 :=
  fun ts s i => wpAny_isTrue_value (wm (h ts s i) fun v s1 i1 => by have := i1.tbool; subst this; exact wpAny_truthy_bool ⟨rfl, i1.pop⟩) hs
theorem et_not {e : Expr} {b : Bool} {pos : Pos} (h : ET X vs cs e b cs1) : ET X vs cs (.UnaryOp .Not e pos) (!b) cs1 :=
  fun ts s i => wpAny_isTrue_Not (wm (h ts s i) fun v s1 ⟨e, i1⟩ => ⟨by rw [e], i1⟩)
noncomputable def ETs (X : Fx c k ks gl cl) (vs : List (Option PV)) (cs : Cells) (op : BoolOp) (es : List Expr) (b : Bool) : Prop :=
  ∀ ts s, Inv X vs cs ts s → wpAny (model c.prog c.w) X.A (allTrue op es X.env) (fun v s' => v = b ∧ Inv X vs cs ts s') (fun _ _ => False) s
theorem ets_and_nil : ETs X vs cs .And [] true := fun ts s i => wpAny_allTrue_And_nil ⟨rfl, i⟩
theorem ets_or_nil : ETs X vs cs .Or [] false := fun ts s i => by
  show wpAny _ _ (pure (BoolOp.Or == .And)) _ _ _
  exact wpAny_pure ⟨rfl, i⟩
theorem ets_and {e : Expr} {es : List Expr} {a b : Bool} (h : ET X vs cs e a cs) (r : a = true → ETs X vs cs .And es b) : ETs X vs cs .And (e :: es) (a && b) :=
  fun ts s i => wpAny_allTrue_And_cons (wm (h ts s i) fun v s1 ⟨e, i1⟩ => by
    subst e
    cases v with
    | true => rw [if_pos rfl]; exact wm (r rfl ts s1 i1) fun v s2 ⟨e, i2⟩ => ⟨by rw [e]; rfl, i2⟩
    | false => rw [if_neg (by decide)]; exact ⟨rfl, i1⟩)
theorem ets_or {e : Expr} {es : List Expr} {a b : Bool} (h : ET X vs cs e a cs) (r : a = false → ETs X vs cs .Or es b) : ETs X vs cs .Or (e :: es) (a || b) :=
  fun ts s i => wpAny_allTrue_Or_cons (wm (h ts s i) fun v s1 ⟨e, i1⟩ => by
    subst e
    cases v with
    | true => rw [if_pos rfl]; exact ⟨rfl, i1⟩
    | false => rw [if_neg (by decide)]; exact wm (r rfl ts s1 i1) fun v s2 ⟨e, i2⟩ => ⟨by rw [e]; rfl, i2⟩)
theorem et_bool {op : BoolOp} {es : List Expr} {b : Bool} {pos : Pos} (h : ETs X vs cs op es b) : ET X vs cs (.BoolOp op es pos) b cs :=
  fun ts s i => wpAny_isTrue_BoolOp (h ts s i)
theorem et_and {e1 e2 : Expr} {a b : Bool} {pos : Pos} (h : ET X vs cs e1 a cs) (r : a = true → ET X vs cs e2 b cs) : ET X vs cs (.BoolOp .And [e1, e2] pos) (a && b) cs := by
  have := ets_and h fun e => ets_and (r e) fun _ => ets_and_nil
  rw [Bool.and_true] at this; exact et_bool this
theorem et_or {e1 e2 : Expr} {a b : Bool} {pos : Pos} (h : ET X vs cs e1 a cs) (r : a = false → ET X vs cs e2 b cs) : ET X vs cs (.BoolOp .Or [e1, e2] pos) (a || b) cs := by
  have := ets_or h fun e => ets_or (r e) fun _ => ets_or_nil
  rw [Bool.or_false] at this; exact et_bool this
theorem et_or3 {e1 e2 e3 : Expr} {a b d : Bool} {pos : Pos} (h : ET X vs cs e1 a cs) (r : a = false → ET X vs cs e2 b cs) (r' : b = false → ET X vs cs e3 d cs) : ET X vs cs (.BoolOp .Or [e1, e2, e3] pos) (a || (b || d)) cs := by
  have := ets_or h fun e => ets_or (r e) fun e' => ets_or (r' e') fun _ => ets_or_nil
  rw [Bool.or_false] at this; exact et_bool this

/-- and, or as values -/
noncomputable def EvB (X : Fx c k ks gl cl) (vs : List (Option PV)) (cs : Cells) (pos : Pos) (op : BoolOp) (es : List Expr) (b : Bool) : Prop :=
  ∀ ts s, Inv X vs cs ts s → wpAny (model c.prog c.w) X.A (boolOp pos op (evalEach es X.env)) (fun v s' => Inv X vs cs ((v, .bool b) :: ts) s') (fun _ _ => False) s
theorem evb_one {e : Expr} {b : Bool} {pos : Pos} {op : BoolOp} (h : Ev X vs cs e (.bool b) cs) : EvB X vs cs pos op [e] b := fun ts s i => h ts s i
theorem evb_and {e e' : Expr} {es : List Expr} {a b : Bool} {pos : Pos} (h : Ev X vs cs e (.bool a) cs) (r : a = true → EvB X vs cs pos .And (e' :: es) b) : EvB X vs cs pos .And (e :: e' :: es) (a && b) := fun ts s i => by
  show wpAny _ _ (eval e X.env >>= fun v => standAt pos >>= fun _ => holding [v] (truthy v) >>= fun t => _) _ _ _
  refine wpAny_bind (wm (h ts s i) fun v s1 i1 => wpAny_bind (wpAny_standAt (wpAny_bind (wpAny_holding ?_))))
  have := i1.tbool; subst this
  refine wpAny_truthy_bool ?_
  cases a with
  | false => exact wpAny_pure i1
  | true => exact wm (r rfl ts s1 i1.pop) fun v s2 i2 => i2
theorem evb_or {e e' : Expr} {es : List Expr} {a b : Bool} {pos : Pos} (h : Ev X vs cs e (.bool a) cs) (r : a = false → EvB X vs cs pos .Or (e' :: es) b) : EvB X vs cs pos .Or (e :: e' :: es) (a || b) := fun ts s i => by
  show wpAny _ _ (eval e X.env >>= fun v => standAt pos >>= fun _ => holding [v] (truthy v) >>= fun t => _) _ _ _
  refine wpAny_bind (wm (h ts s i) fun v s1 i1 => wpAny_bind (wpAny_standAt (wpAny_bind (wpAny_holding ?_))))
  have := i1.tbool; subst this
  refine wpAny_truthy_bool ?_
  cases a with
  | true => exact wpAny_pure i1
  | false => exact wm (r rfl ts s1 i1.pop) fun v s2 i2 => i2
theorem ev_boolop {op : BoolOp} {es : List Expr} {b : Bool} {pos : Pos} (h : EvB X vs cs pos op es b) : Ev X vs cs (.BoolOp op es pos) (.bool b) cs := fun ts s i => h ts s i

theorem ev_if {t a b : Expr} {x : Bool} {p : PV} {pos : Pos} (h : ET X vs cs t x cs1) (h1 : x = true → Ev X vs cs1 a p cs2) (h2 : x = false → Ev X vs cs1 b p cs2) : Ev X vs cs (.IfExp t a b pos) p cs2 :=
  fun ts s i => wpAny_IfExp (wm (h ts s i) fun v s1 ⟨e, i1⟩ => by
    subst e
    cases v with
    | true => rw [if_pos rfl]; exact h1 rfl ts s1 i1
    | false => rw [if_neg (by decide)]; exact h2 rfl ts s1 i1)

/-! statements -/
theorem ex_nil (h : N vs cs) : Ex X vs cs [] N R := fun ts s i => wpAny_execs_nil ⟨vs, cs, h, i⟩
theorem ex_cons {st : Stmt} {rest : List Stmt} (h : ∀ ts s, Inv X vs cs ts s → wpAny (model c.prog c.w) X.A (exec st X.env) (fun f s' => match f with | .next => ∃ vs' cs', Inv X vs' cs' ts s' ∧ Ex X vs' cs' rest N R | f => ExPost X ts N R f s') (fun _ _ => False) s) : Ex X vs cs (st :: rest) N R :=
  fun ts s i => wpAny_execs_cons (wm (h ts s i) fun f s' q => by
    cases f with
    | next => obtain ⟨vs', cs', i', e⟩ := q; exact e ts s' i'
    | _ => exact q)
theorem ex_return {e : Expr} {p : PV} {pos : Pos} {rest : List Stmt} (h : Ev X vs cs e p cs1) (r : R p cs1) : Ex X vs cs (.Return (some e) pos :: rest) N R :=
  ex_cons fun ts s i => wpAny_Return_some (wm (h ts s i) fun v s' i' => ⟨p, vs, cs1, r, i'⟩)
theorem execs_append (a b : List Stmt) (env : Env) : execs (a ++ b) env = (do match ← execs a env with | .next => execs b env | f => pure f) := by
  induction a with
  | nil => rw [List.nil_append, execs_nil, pure_bind]
  | cons st a ih =>
    rw [List.cons_append, execs_cons, execs_cons, ih, bind_assoc]
    congr 1; funext f
    cases f <;> simp only [pure_bind]
theorem execs_if (t : Expr) (body orelse rest : List Stmt) (pos : Pos) (env : Env) : execs (.If t body orelse pos :: rest) env = (do standAt pos; let b ← isTrue t env (eval t env); if b then execs (body ++ rest) env else execs (orelse ++ rest) env) := by
  rw [execs_cons, exec_If, bind_assoc]
  congr 1; funext _
  rw [bind_assoc]
  congr 1; funext b
  cases b <;> simp only [Bool.false_eq_true, if_true, if_false, execs_append] <;> rfl
theorem ex_if {t : Expr} {b : Bool} {body orelse rest : List Stmt} {pos : Pos} (h : ET X vs cs t b cs1) (h1 : b = true → Ex X vs cs1 (body ++ rest) N R) (h2 : b = false → Ex X vs cs1 (orelse ++ rest) N R) : Ex X vs cs (.If t body orelse pos :: rest) N R := by
  intro ts s i
  rw [execs_if]
  refine wpAny_bind (wpAny_standAt (wpAny_bind (wm (h ts s i) fun v s1 ⟨e, i1⟩ => ?_)))
  subst e
  cases v with
  | true => rw [if_pos rfl]; exact h1 rfl ts s1 i1
  | false => rw [if_neg (by decide)]; exact h2 rfl ts s1 i1
theorem ex_seq {a b : List Stmt} {N' : List (Option PV) → Cells → Prop} (h : Ex X vs cs a N' R) (h1 : ∀ vs cs, N' vs cs → Ex X vs cs b N R) : Ex X vs cs (a ++ b) N R := by
  intro ts s i
  rw [execs_append]
  refine wpAny_bind (wm (h ts s i) fun f s1 q => ?_)
  cases f with
  | next => obtain ⟨vs', cs', n, i'⟩ := q; exact h1 _ _ n ts s1 i'
  | _ => exact wpAny_pure q
theorem ex_fsub {ss : List Stmt} (f : Fsub vs vs') (h : Ex X vs' cs ss N R) : Ex X vs cs ss N R := fun ts s i => h ts s (i.fsub f)

/-- a name of the frame's -/
theorem st_local {x : Str} {p : PV} {v : Value} (g : SetAt ks vs x p vs') {A : Around} {E : Value → Shared → Prop} (i : Inv X vs cs ((v, p) :: ts) s) : wpAny (model c.prog c.w) A (storeName X.env x v) (fun _ s' => Inv X vs' cs ts s') E s := by
  obtain ⟨F, i⟩ := i
  obtain ⟨m, hn, hm⟩ := i.loc
  exact wpAny_storeName_local (X.loc x g.mem) hn (fun h' hn' sb => ⟨F, (i.setLocal g (i.tmp _ (.head _)) hm hn' sb).sub fun _ h => .tail _ h⟩) (by rw [X.kind]; rfl)
theorem ex_assign {x : Str} {p' pos : Pos} {e : Expr} {p : PV} {rest : List Stmt} (h : Ev X vs cs e p cs1) (g : SetAt ks vs x p vs') (r : Ex X vs' cs1 rest N R)
    (hs : swapsWith e (some (.Name x p')) pos.line X.env = pure false := by rfl) : Ex X vs cs (.Assign [.Name x p'] e pos :: rest) N R :=
  ex_cons fun ts s i => wpAny_Assign_Name (wm (h ts s i) fun v s1 i1 => wm (st_local g i1) fun _ s2 i2 => ⟨vs', cs1, i2, r⟩) hs
theorem ex_expr {e : Expr} {pos : Pos} {rest : List Stmt} (h : Ev X vs cs e .none cs1) (r : Ex X vs cs1 rest N R) (hs : swapsWith e none pos.line X.env = pure false := by rfl) : Ex X vs cs (.Expr e pos :: rest) N R :=
  ex_cons fun ts s i => wpAny_Expr (wm (h ts s i) fun v s1 ⟨F, i1⟩ => by
    have := i1.tmp _ (.head _)
    cases this
    exact ⟨vs, cs1, ⟨F, i1.sub fun _ h => .tail _ h⟩, r⟩) (by unfold interactive; rw [X.kind]; rfl) hs

/-- while: a family of frames and cells -/
theorem ex_while {α : Type} (φ : α → List (Option PV)) (γ : α → Cells) (I : α → Prop) (μ : α → Nat) (a0 : α) {test : Expr} {body rest : List Stmt} {pos : Pos} (b : α → Bool)
    (h0 : Fsub vs (φ a0)) (hc : cs = γ a0) (hI : I a0) (ht : ∀ a, I a → ET X (φ a) (γ a) test (b a) (γ a))
    (hb : ∀ a, I a → b a = true → Ex X (φ a) (γ a) body (fun vs' cs' => ∃ a', I a' ∧ μ a' < μ a ∧ Fsub vs' (φ a') ∧ cs' = γ a') R)
    (hr : ∀ a, I a → b a = false → Ex X (φ a) (γ a) rest N R) : Ex X vs cs (.While test body [] pos :: rest) N R := by
  refine ex_cons fun ts s i => wpAny_While (codeAny_whileLoop (fun n s' => ∃ a, I a ∧ n = μ a ∧ Inv X (φ a) (γ a) ts s') (fun n s' h => ?_) (μ a0) ⟨a0, hI, rfl, hc ▸ i.fsub h0⟩)
  obtain ⟨a, ha, rfl, ia⟩ := h
  refine wpAny_mono (ht a ha ts s' ia) (fun v s1 ⟨e, i1⟩ => ?_) fun _ _ f => f.elim
  subst e
  cases hv : b a with
  | true =>
    rw [if_pos rfl]
    refine wpAny_mono (hb a ha hv ts s1 i1) (fun f s2 q => ?_) fun _ _ f => f.elim
    cases f with
    | next => obtain ⟨vs', cs', ⟨a', h1, h2, h3, h4⟩, i2⟩ := q; subst h4; exact ⟨μ a', h2, a', h1, rfl, i2.fsub h3⟩
    | ret v => exact q
    | _ => exact q.elim
  | false =>
    rw [if_neg (by decide)]
    exact wpAny_execs_nil ⟨φ a, γ a, i1, hr a ha hv⟩

/-! calls -/
theorem el_nil {pos : Pos} : EvL X vs cs pos [] [] cs := fun ts s i => spliced_nil ⟨rfl, i⟩
theorem el_cons {pos : Pos} {e : Expr} {es : List Expr} {p : PV} {ps : List PV} (h : Ev X vs cs e p cs1) (r : EvL X vs cs1 pos es ps cs2)
    (he : starEach (e :: es) X.env = (false, eval e X.env) :: starEach es X.env := by rfl) : EvL X vs cs pos (e :: es) (p :: ps) cs2 := fun ts s i => by
  rw [he]
  refine spliced_cons (wm (h ts s i) fun v s1 i1 => wm (r _ s1 i1) fun us s2 ⟨l, i2⟩ => ⟨by simp [l], i2.sub fun t ht => ?_⟩)
  simp only [List.zip_cons_cons, List.cons_append, List.mem_cons, List.mem_append] at ht ⊢
  rcases ht with h | h | h
  · exact .inr (.inl h)
  · exact .inl h
  · exact .inr (.inr h)
theorem iss_zip : ∀ {us : List Value} {ps : List PV}, us.length = ps.length → (∀ t ∈ us.zip ps, Is F t.2 t.1) → Iss F ps us
  | [], [], _, _ => .nil
  | u :: us, p :: ps, l, h => .cons (h (u, p) (.head _)) (iss_zip (by simpa using l) fun t ht => h t (.tail _ ht))
  | [], _ :: _, l, _ => by simp at l
  | _ :: _, [], l, _ => by simp at l
theorem InvF.args {us : List Value} {ps : List PV} (x : InvF X F vs cs (us.zip ps ++ ts) s) (l : us.length = ps.length) : Iss F ps us := iss_zip l fun t ht => x.tmp t (List.mem_append_left _ ht)
theorem Inv.popN {us : List Value} {ps : List PV} (x : Inv X vs cs (us.zip ps ++ ts) s) : Inv X vs cs ts s := x.sub fun t ht => List.mem_append_right _ ht
theorem InvF.popN {us : List Value} {ps : List PV} (x : InvF X F vs cs (us.zip ps ++ ts) s) : InvF X F vs cs ts s := x.sub fun t ht => List.mem_append_right _ ht

theorem evalArgs_of {M : Model} {A : Around} {E : Value → Shared → Prop} {f : Value} {args : List (Bool × Sem Value)} {Q : Args → Shared → Prop} (hn : args.any (·.1) = false)
    (h : wpAny M A (spliced args) (fun us s' => Q ⟨us, []⟩ s') E s) : wpAny M A (evalArgs f true args []) Q E s := by
  match args, hn, h with
  | [], _, h =>
    unfold evalArgs
    exact wpAny_bind (wm h fun us s' q => wpAny_bind (wpAny_pure (wpAny_holding (wpAny_bind (wpAny_pure (wpAny_bind (wpAny_pure (wpAny_pure q))))))))
  | (true, x) :: r, hn, h => simp at hn
  | (false, x) :: r, hn, h => exact evalArgs_plain h
theorem star_none {es : List Expr} {env : Env} {pos : Pos} (h : (starEach es env).any (·.1) = false) : (backTo pos (starEach es env)).any (·.1) = false := by
  unfold backTo
  rw [List.any_map]
  exact h
end

section
variable {c : Cx} {k : Nat} {ks gl : List Str} {cl : List (Str × Addr)} {X : Fx c k ks gl cl} {F : Fz} {vs vs1 vs' : List (Option PV)} {cs cs1 cs2 cs3 : Cells} {ts ts' : List (Value × PV)} {s : Shared}

theorem FnM.less {j k : Nat} {f : Value} {ps : List PV} {cs cs' : Cells} {r : PV} (h : FnM c j f ps cs r cs') (hj : j ≤ k) : FnM c k f ps cs r cs' :=
  fun A s F us rm => h A s F us (rm.less hj)

/-- a call of a def of the text's that turns nothing -/
theorem run_pure {j : Nat} {f : Value} {ps : List PV} {r : PV} {us : List Value} (h : FnP c j f ps r) (hj : j ≤ k) (l : us.length = ps.length) (i : Inv X vs cs (us.zip ps ++ ts) s) :
    wpAny (model c.prog c.w) X.A (call f us []) (fun v s' => Inv X vs cs ((v, r) :: ts) s') (fun _ _ => False) s := by
  obtain ⟨F, i⟩ := i
  refine wpAny_call (codeAny_mono (h X.A s F us (X.rm.less hj) (X.cf.mono i.le) i.on (i.args l) (fun z hz => nomatch hz) .nil) fun res s' q => ?_)
  obtain ⟨v, G, rfl, hp, hi, _⟩ := q
  exact ⟨G, (i.popN.post0 hp).push _ _ hi⟩

inductive CsSet : Cells → Addr → CV → CV → Cells → Prop
  | head {a : Addr} {x y : CV} {cs : Cells} : CsSet ((a, x) :: cs) a x y ((a, y) :: cs)
  | tail {a : Addr} {x y : CV} {z : Addr × CV} {cs cs' : Cells} : CsSet cs a x y cs' → CsSet (z :: cs) a x y (z :: cs')
theorem CsSet.mem {cs cs' : Cells} {a : Addr} {x y : CV} (h : CsSet cs a x y cs') : (a, x) ∈ cs := by
  induction h with
  | head => exact .head _
  | tail _ ih => exact .tail _ ih
theorem CsSet.fst {cs cs' : Cells} {a : Addr} {x y : CV} (h : CsSet cs a x y cs') : cs'.map (·.1) = cs.map (·.1) := by
  induction h with
  | head => rfl
  | tail _ ih => rw [List.map_cons, List.map_cons, ih]
theorem CsSet.get {cs cs' : Cells} {a : Addr} {x y : CV} (h : CsSet cs a x y cs') (nd : (cs.map (·.1)).Nodup) {z : Addr × CV} (hz : z ∈ cs') : z = (a, y) ∨ (z ∈ cs ∧ z.1 ≠ a) := by
  induction h with
  | head =>
    rcases List.mem_cons.mp hz with rfl | hz
    · exact .inl rfl
    · exact .inr ⟨.tail _ hz, fun e => (List.nodup_cons.mp nd).1 (List.mem_map.mpr ⟨z, hz, e⟩)⟩
  | tail r ih =>
    rcases List.mem_cons.mp hz with rfl | hz
    · exact .inr ⟨.head _, fun e => (List.nodup_cons.mp nd).1 (List.mem_map.mpr ⟨_, r.mem, e.symm⟩)⟩
    · rcases ih (List.nodup_cons.mp nd).2 hz with h | ⟨h, h'⟩
      · exact .inl h
      · exact .inr ⟨.tail _ h, h'⟩

/-- one of the own objects has turned -/
theorem InvF.setCell (x : InvF X F vs cs ts s) {a : Addr} {u y : CV} (hs : CsSet cs a u y cs1) {G : Fz} {h : Heap} {t : Nat} (le : F.le G) (on : G.on h) (fr : ∀ b o, s.heap.get? b = some o → F b = none → G b = none)
    (kp : ∀ b o, b ≠ a → s.heap.get? b = some o → h.get? b = some o) (hy : CellAt G h (a, y)) : InvF X G vs cs1 ts { s with heap := h, toks := t } := by
  obtain ⟨c1, c2, c3, c4⟩ := x.cell _ hs.mem
  obtain ⟨oa, hoa⟩ := c1.some
  have c2' : F a = none := c2
  refine ⟨?_, on, x.le.trans le, fun b o e n => ?_, fun b o e n => ?_, fun b hb => ?_, ?_, ⟨?_, x.nL.2⟩, fun z hz => ?_, hs.fst ▸ x.nd, fun t ht => (x.tmp t ht).mono le⟩
  · obtain ⟨h0, t0, e⟩ := x.st; exact ⟨h, t, by rw [e]⟩
  · by_cases hw : X.W b
    · obtain ⟨h1, o', h2⟩ := x.wr b hw; exact fr b o' h2 h1
    · exact fr b o (x.keep b o e hw) (x.fresh b o e n)
  · refine kp b o (fun q => ?_) (x.keep b o e n)
    subst q
    rcases c4 with h4 | h4
    · exact n h4
    · rw [h4] at e; cases e
  · obtain ⟨h1, o', h2⟩ := x.wr b hb
    refine ⟨fr b o' h2 h1, ?_⟩
    by_cases q : b = a
    · subst q; exact hy.some
    · exact ⟨o', kp b o' q h2⟩
  · obtain ⟨m, hn, hm⟩ := x.loc
    exact ⟨m, hn.at' fun o e => kp _ o (Ne.symm c3) e, fun y p g => let ⟨v, h1, h2⟩ := hm y p g; ⟨v, h1, h2.mono le⟩⟩
  · obtain ⟨m, ⟨o', _, _, ho, _⟩, _⟩ := x.loc
    exact fr _ o' ho x.nL.1
  · rcases hs.get x.nd hz with rfl | ⟨h1, h2⟩
    · exact ⟨hy, fr _ oa hoa c2', c3, c4⟩
    · obtain ⟨d1, d2, d3, d4⟩ := x.cell z h1
      obtain ⟨oz, hoz⟩ := d1.some
      exact ⟨d1.mono le fun o e => kp _ o h2 e, fr _ oz hoz d2, d3, d4⟩

/-- a call that turns one own object -/
theorem run_cell {j : Nat} {f : Value} {ps : List PV} {r : PV} {us : List Value} {a : Addr} {u y : CV} (h : FnM c j f ps [(a, u)] r [(a, y)]) (hj : j ≤ k) (hs : CsSet cs a u y cs1) (l : us.length = ps.length) (i : Inv X vs cs (us.zip ps ++ ts) s) :
    wpAny (model c.prog c.w) X.A (call f us []) (fun v s' => Inv X vs cs1 ((v, r) :: ts) s') (fun _ _ => False) s := by
  obtain ⟨F, i⟩ := i
  obtain ⟨c1, c2, c3, c4⟩ := i.cell _ hs.mem
  refine wpAny_call (codeAny_mono (h X.A s F us (X.rm.less hj) (X.cf.mono i.le) i.on (i.args l) (fun z hz => by
    rcases List.mem_cons.mp hz with rfl | hz
    · exact ⟨c1, c2⟩
    · cases hz) (by simp)) fun res s' q => ?_)
  obtain ⟨v, G, rfl, hp, hi, hc⟩ := q
  obtain ⟨h', tk, rfl⟩ := hp.st
  exact ⟨G, (i.popN.setCell hs hp.le hp.on hp.fresh (fun b o hb e => hp.keep b o e (by simpa using hb)) (hc _ (.head _))).push _ _ hi⟩

/-- the callee is a def -/
structure IsFn (c : Cx) (f : Addr) : Prop where
  h : ∃ o fd, c.K.lookup f = some o ∧ o.data = .func fd
theorem ev_call0 {j : Nat} {fe : Expr} {f : Addr} {es : List Expr} {pos : Pos} {ps : List PV} {r : PV} (hf : Ev X vs cs fe (.raw (.ref f)) cs) (hi : IsFn c f) (ha : EvL X vs cs pos es ps cs1) (h : FnP c j (.ref f) ps r) (hj : j ≤ k)
    (hst : (starEach es X.env).any (·.1) = false := by rfl)
    (he : eval (.Call fe es [] pos) X.env = (do callWith pos (← eval fe X.env) [] (backTo pos (starEach es X.env)) (backToKw pos (keywordEach [] X.env))) := by rfl) : Ev X vs cs (.Call fe es [] pos) r cs1 := fun ts s i => by
  rw [he]
  refine wpAny_bind (wm (hf ts s i) fun v s1 i1 => ?_)
  have := i1.traw; subst this
  obtain ⟨o, fd, ho, hd⟩ := hi.h
  refine callWith_function (o := o) (fd := fd) (evalArgs_of (star_none hst) (wm (ha ts s1 i1.pop) fun us s2 ⟨l, i2⟩ => ?_))
  refine ⟨⟨let ⟨F, y⟩ := i2; y.inK _ _ ho, hd⟩, ?_⟩
  exact run_pure h hj l i2
theorem ev_callC {j : Nat} {fe : Expr} {f : Addr} {es : List Expr} {pos : Pos} {ps : List PV} {r : PV} {a : Addr} {u y : CV} (hf : Ev X vs cs fe (.raw (.ref f)) cs) (hi : IsFn c f) (ha : EvL X vs cs pos es ps cs1) (h : FnM c j (.ref f) ps [(a, u)] r [(a, y)]) (hj : j ≤ k) (hs : CsSet cs1 a u y cs2)
    (hst : (starEach es X.env).any (·.1) = false := by rfl)
    (he : eval (.Call fe es [] pos) X.env = (do callWith pos (← eval fe X.env) [] (backTo pos (starEach es X.env)) (backToKw pos (keywordEach [] X.env))) := by rfl) : Ev X vs cs (.Call fe es [] pos) r cs2 := fun ts s i => by
  rw [he]
  refine wpAny_bind (wm (hf ts s i) fun v s1 i1 => ?_)
  have := i1.traw; subst this
  obtain ⟨o, fd, ho, hd⟩ := hi.h
  refine callWith_function (o := o) (fd := fd) (evalArgs_of (star_none hst) (wm (ha ts s1 i1.pop) fun us s2 ⟨l, i2⟩ => ?_))
  refine ⟨⟨let ⟨F, y⟩ := i2; y.inK _ _ ho, hd⟩, ?_⟩
  exact run_cell h hj hs l i2
/-- a built-in function -/
noncomputable def BiR (X : Fx c k ks gl cl) (id : String) (ps : List PV) (r : PV) : Prop :=
  ∀ vs cs ts s us, us.length = ps.length → Inv X vs cs (us.zip ps ++ ts) s → wpAny (model c.prog c.w) X.A (call (.builtin id) us []) (fun v s' => Inv X vs cs ((v, r) :: ts) s') (fun _ _ => False) s
theorem ev_callB {fe : Expr} {id : String} {es : List Expr} {pos : Pos} {ps : List PV} {r : PV} (hf : Ev X vs cs fe (.raw (.builtin id)) cs) (ha : EvL X vs cs pos es ps cs1) (h : BiR X id ps r)
    (hst : (starEach es X.env).any (·.1) = false := by rfl)
    (he : eval (.Call fe es [] pos) X.env = (do callWith pos (← eval fe X.env) [] (backTo pos (starEach es X.env)) (backToKw pos (keywordEach [] X.env))) := by rfl) : Ev X vs cs (.Call fe es [] pos) r cs1 := fun ts s i => by
  rw [he]
  refine wpAny_bind (wm (hf ts s i) fun v s1 i1 => ?_)
  have := i1.traw; subst this
  exact callWith_builtin (star_none hst) (evalArgs_of (star_none hst) (wm (ha ts s1 i1.pop) fun us s2 ⟨l, i2⟩ => h _ _ _ _ _ l i2))
end
end Mine

end
section
open PySem PySem.W PyProof.Rows
namespace Mine
open PySem PySem.Calls PySem.W PyProof.Rows

theorem lookup_rev_zip {x : Str} {v : Value} : ∀ {pn : List Str} {us : List Value} {i : Nat}, pn.Nodup → pn.length = us.length → pn[i]? = some x → us[i]? = some v → (pn.zip us).reverse.lookup x = some v
  | [], _, i, _, _, h, _ => by simp at h
  | y :: pn, [], i, _, l, _, _ => by simp at l
  | y :: pn, u :: us, i, nd, l, h, hv => by
    simp only [List.zip_cons_cons, List.reverse_cons, List.lookup_append]
    cases i with
    | zero =>
      simp at h hv; subst h; subst hv
      have : (pn.zip us).reverse.lookup y = none := by
        rw [List.lookup_eq_none_iff]
        intro p hp
        have hm : p.1 ∈ pn := (List.of_mem_zip (List.mem_reverse.mp hp)).1
        simp only [bne_iff_ne, ne_eq, beq_eq_false_iff_ne]
        intro e; subst e; exact (List.nodup_cons.mp nd).1 hm
      rw [this]; simp
    | succ i =>
      have := lookup_rev_zip (x := x) (v := v) (List.nodup_cons.mp nd).2 (by simpa using l) (by simpa using h) (by simpa using hv)
      rw [this]; rfl

/-- the frame a call begins with -/
noncomputable def frame0 : List PV → List Str → List (Option PV)
  | [], rest => rest.map fun _ => none
  | p :: ps, rest => some p :: frame0 ps rest
theorem frame0_get {F : Fz} {x : Str} {p : PV} : ∀ {pn : List Str} {ps : List PV} {us : List Value} {rest : List Str}, pn.length = ps.length → Iss F ps us → GetAt (pn ++ rest) (frame0 ps rest) x p → ∃ (i : Nat) (v : Value), pn[i]? = some x ∧ us[i]? = some v ∧ Is F p v
  | [], [], us, rest, _, _, g => by
    have : ∀ (r : List Str), ¬ GetAt r (r.map fun _ => (none : Option PV)) x p := by
      intro r g
      induction r with
      | nil => cases g
      | cons y r ih => rw [List.map_cons] at g; cases g with | tail g => exact ih g
    exact (this rest g).elim
  | y :: pn, q :: ps, u :: us, rest, l, .cons hi r, g => by
    cases g with
    | head => exact ⟨0, u, rfl, rfl, hi⟩
    | tail g =>
      obtain ⟨i, v, h1, h2, h3⟩ := frame0_get (rest := rest) (by simpa using l) r g
      exact ⟨i + 1, v, by simpa using h1, by simpa using h2, h3⟩
  | [], q :: ps, _, _, l, _, _ => by simp at l
  | y :: pn, [], _, _, l, _, _ => by simp at l

section
variable {c : Cx}

/-- what a text's def is -/
structure DefOk (c : Cx) (f : Addr) (pn rest gl : List Str) (body : List Stmt) : Prop where
  h : ∃ o fd, c.K.lookup f = some o ∧ o.data = .func fd ∧ fd.body = .stmts body ∧ codeIn c.K fd.code fd.qualname = true ∧ fd.globals = mainGlobals ∧ fd.builtins = builtinsNs ∧ fd.closure = [] ∧
    (∀ us : List Value, us.length = pn.length → bindArgs fd ⟨us, []⟩ = pure (pn.zip us)) ∧
    (∀ x ∈ fd.scope.names, x.2 ≠ .cell) ∧ (∀ x ∈ pn ++ rest, fd.scope.names.lookup x = some .local) ∧ (∀ x ∈ gl, fd.scope.names.lookup x = some .globalImplicit) ∧
    fd.scope.isCoroutine = false ∧ fd.scope.isGenerator = false ∧ fd.scope.kind = .function
  nd : (pn ++ rest).Nodup

theorem DefOk.isFn {f : Addr} {pn rest gl : List Str} {body : List Stmt} (d : DefOk c f pn rest gl body) : IsFn c f := let ⟨o, fd, h1, h2, _⟩ := d.h; ⟨o, fd, h1, h2⟩

theorem fn_of_body {k : Nat} {f : Addr} {pn rest gl : List Str} {body : List Stmt} {ps : List PV} {cs cs' : Cells} {r : PV} (d : DefOk c f pn rest gl body) (hl : pn.length = ps.length)
    (h : ∀ X : Fx c k (pn ++ rest) gl [], (∀ a, X.W a ↔ a ∈ cs.map (·.1)) → Ex X (frame0 ps rest) cs body (fun _ cs'' => r = .none ∧ cs'' = cs') (fun p cs'' => p = r ∧ cs'' = cs')) : FnM c (k + 1) (.ref f) ps cs r cs' := by
  intro A s F us rm cf on hi hcs hnd
  obtain ⟨o, fd, ho, hd, hb, hcode, hg, hbl, hcl, hbind, hcell, hloc, hgl, hco, hgen, hkind⟩ := d.h
  have lu : pn.length = us.length := hl.trans hi.length
  have inK := cf.inK on
  have T := cf.top _ on
  refine codeAny_call_def (fd := fd) (body := body) (binds := pn.zip us) rm.lt (inK _ _ ho) hd T.nolimit (codeRec_of inK hcode) hb (BindsTo.of_eq (hbind us lu.symm)) hcell
    (fun x hx => hloc _ (List.mem_append_left _ (List.of_mem_zip hx).1)) (fun h₀ hns hk => ?_) hco hgen hkind
  let X : Fx c k (pn ++ rest) gl [] := {
    A := A.deeper (callEnv fd s.heap.objs.size f), env := callEnv fd s.heap.objs.size f, s0 := s, F0 := F, W := fun a => a ∈ cs.map (·.1)
    rm := rm.deeper, cf := cf, kind := hkind, glob := hg, blt := hbl, above := Nat.le_refl _, nd := d.nd, loc := hloc, gls := hgl, cls := fun _ hx => nomatch hx }
  have i0 : Inv X (frame0 ps rest) cs [] { s with heap := h₀, toks := s.toks + (pn.zip us).length } := by
    refine ⟨F, ⟨⟨h₀, _, rfl⟩, fun a o e => hk a o (on a o e), Fz.le_refl _, fun a o _ n => n, fun a o e _ => hk a o e, fun a ha => ?_, ⟨_, hns, fun x p g => ?_⟩, ⟨?_, fun hw => ?_⟩, fun z hz => ?_, hnd, fun t ht => nomatch ht⟩⟩
    · obtain ⟨z, hz, rfl⟩ := List.mem_map.mp ha
      obtain ⟨c1, c2⟩ := hcs z hz
      obtain ⟨o', ho'⟩ := c1.some
      exact ⟨c2, o', hk _ _ ho'⟩
    · obtain ⟨i, v, h1, h2, h3⟩ := frame0_get hl hi g
      exact ⟨v, lookup_rev_zip (List.nodup_append.mp d.nd).1 lu h1 h2, h3⟩
    · cases e : F s.heap.objs.size with
      | none => exact e
      | some o' => exact absurd (Heap.lt_size (on _ _ e)) (Nat.lt_irrefl _)
    · obtain ⟨z, hz, e⟩ := List.mem_map.mp hw
      obtain ⟨o', ho'⟩ := (hcs z hz).1.some
      have := Heap.lt_size ho'
      rw [e] at this
      exact absurd this (Nat.lt_irrefl _)
    · obtain ⟨c1, c2⟩ := hcs z hz
      obtain ⟨o', ho'⟩ := c1.some
      exact ⟨c1.mono (Fz.le_refl _) (hk _), c2, Nat.ne_of_lt (Heap.lt_size ho'), .inl (List.mem_map_of_mem hz)⟩
  have fin : ∀ {v : Value} {p : PV} {vs : List (Option PV)} {s' : Shared}, Inv X vs cs' [(v, p)] s' → ∃ v' G, (Except.ok (Flow.ret v) : Result) = .ok (.ret v') ∧ PostF F s G s' (cs.map (·.1)) ∧ Is G p v' ∧ ∀ z ∈ cs', CellAt G s'.heap z := by
    rintro v p vs s' ⟨G, i⟩
    exact ⟨v, G, rfl, ⟨i.st, i.le, i.on, i.fresh, i.keep⟩, i.tmp _ (.head _), fun z hz => (i.cell z hz).1⟩
  refine wpAny_mono (h X (fun a => Iff.rfl) [] _ i0) (fun fl s' q => ?_) fun _ _ q => q.elim
  cases fl with
  | next =>
    obtain ⟨vs, cs'', ⟨rfl, rfl⟩, i⟩ := q
    exact fin (v := .none) i.none
  | ret v =>
    obtain ⟨p, vs, cs'', ⟨rfl, rfl⟩, i⟩ := q
    exact fin i
  | _ => exact q.elim
theorem fp_of_body {k : Nat} {f : Addr} {pn rest gl : List Str} {body : List Stmt} {ps : List PV} {r : PV} (d : DefOk c f pn rest gl body) (hl : pn.length = ps.length)
    (h : ∀ X : Fx c k (pn ++ rest) gl [], Ex X (frame0 ps rest) [] body (fun _ cs'' => r = .none ∧ cs'' = []) (fun p cs'' => p = r ∧ cs'' = [])) : FnP c (k + 1) (.ref f) ps r :=
  fn_of_body d hl fun X _ => h X

/-! the class of rows -/
structure RowOk (c : Cx) : Prop where
  ga : findIn c.K (.ref rowCls) "__getattribute__" = some (some (.builtin "object.__getattribute__"))
  gn : findIn c.K (.ref rowCls) "__getattr__" = some none
  dict : hasDictIn c.K rowCls = true
  codes : findIn c.K (.ref rowCls) "codes" = some none
  place : findIn c.K (.ref rowCls) "place" = some none
  begin : findIn c.K (.ref rowCls) "begin" = some (some (.ref 219)) ∧ typeIn c.K (.ref 219) = some (.type "function")
  endd : findIn c.K (.ref rowCls) "end" = some (some (.ref 226)) ∧ typeIn c.K (.ref 226) = some (.type "function")
  code : findIn c.K (.ref rowCls) "code_at" = some (some (.ref 233)) ∧ typeIn c.K (.ref 233) = some (.type "function")
end

section
variable {c : Cx} {k : Nat} {ks gl : List Str} {cl : List (Str × Addr)} {X : Fx c k ks gl cl} {F : Fz} {vs vs1 vs' : List (Option PV)} {cs cs1 cs2 cs3 : Cells} {ts ts' : List (Value × PV)} {s : Shared}

theorem isView {c : List Int} {f : Int} {v : Value} (h : Is F (.view c f) v) : ∃ a d l h1 h2 t1 t2 t3 n m us, v = .ref a ∧ F a = some (instObj rowCls d) ∧ F d = some (dictOf [⟨h1, .str (Mine.ks "codes") t1, .ref l⟩, ⟨h2, .str (Mine.ks "place") t2, .int f t3⟩] n) ∧
    F l = some (listObj us m) ∧ Iss F (c.map PV.int) us.toList := by
  cases h with
  | view h1 h2 h3 r => exact ⟨_, _, _, _, _, _, _, _, _, _, _, rfl, h1, h2, h3, r⟩
theorem instOf {h : Heap} {a d : Addr} {od : Obj} (h1 : h.get? a = some (instObj rowCls d)) (h2 : h.get? d = some od) : InstAt h a (instObj rowCls d) rowCls (some od) := ⟨h1, rfl, rfl, h2⟩

theorem ev_self_codes {e : Expr} {pos : Pos} {cc : List Int} {f : Int} (K : RowOk c) (h : Ev X vs cs e (.view cc f) cs1) (hb : attributeBase e (Mine.ks "codes") X.env (eval e X.env) = eval e X.env := by rfl) : Ev X vs cs (.Attribute e (Mine.ks "codes") pos) (.list (cc.map PV.int)) cs1 := by
  intro ts s i
  show wpAny _ _ (attributeBase e (Mine.ks "codes") X.env (eval e X.env) >>= fun o => standAt pos.atName >>= fun _ => holding [o] (getAttr o (Mine.ks "codes") true) >>= fun r => letTemporaryGo e o r >>= fun _ => pure r) _ _ _
  rw [hb]
  refine wpAny_bind (wm (h ts s i) fun v s1 ⟨F, i1⟩ => wpAny_bind (wpAny_standAt (wpAny_bind (wpAny_holding ?_))))
  obtain ⟨a, d, l, h1, h2, t1, t2, t3, n, m, us, rfl, e1, e2, e3, hi⟩ := isView (i1.tmp _ (.head _))
  refine get_value i1.inK (instOf (i1.on _ _ e1) (i1.on _ _ e2)) K.ga (findObj_own K.dict K.codes rfl rfl) rfl ?_
  refine wpAny_bind (wpAny_letTemporaryGo (wpAny_pure ?_))
  exact ⟨F, ((i1.sub fun _ h => .tail _ h).keeps (Keep.refl _)).push _ _ (.list e3 hi)⟩
theorem ev_self_place {e : Expr} {pos : Pos} {cc : List Int} {f : Int} (K : RowOk c) (h : Ev X vs cs e (.view cc f) cs1) (hb : attributeBase e (Mine.ks "place") X.env (eval e X.env) = eval e X.env := by rfl) : Ev X vs cs (.Attribute e (Mine.ks "place") pos) (.int f) cs1 := by
  intro ts s i
  show wpAny _ _ (attributeBase e (Mine.ks "place") X.env (eval e X.env) >>= fun o => standAt pos.atName >>= fun _ => holding [o] (getAttr o (Mine.ks "place") true) >>= fun r => letTemporaryGo e o r >>= fun _ => pure r) _ _ _
  rw [hb]
  refine wpAny_bind (wm (h ts s i) fun v s1 ⟨F, i1⟩ => wpAny_bind (wpAny_standAt (wpAny_bind (wpAny_holding ?_))))
  obtain ⟨a, d, l, h1, h2, t1, t2, t3, n, m, us, rfl, e1, e2, e3, hi⟩ := isView (i1.tmp _ (.head _))
  refine get_value i1.inK (instOf (i1.on _ _ e1) (i1.on _ _ e2)) K.ga (findObj_own K.dict K.place rfl rfl) rfl ?_
  refine wpAny_bind (wpAny_letTemporaryGo (wpAny_pure ?_))
  exact ⟨F, ((i1.sub fun _ h => .tail _ h).keeps (Keep.refl _)).push _ _ .int⟩

/-- a method of a row -/
theorem ev_meth {j : Nat} {o : Expr} {name : Str} {apos pos : Pos} {es : List Expr} {cc : List Int} {f0 : Int} {fa : Addr} {ps : List PV} {r : PV} (K : RowOk c)
    (hf : findIn c.K (.ref rowCls) name = some (some (.ref fa)) ∧ typeIn c.K (.ref fa) = some (.type "function")) (hfn : IsFn c fa) (hne : (Mine.ks "codes" == name) = false ∧ (Mine.ks "place" == name) = false)
    (ho : Ev X vs cs o (.view cc f0) cs1) (ha : EvL X vs cs1 pos es ps cs2) (h : FnP c j (.ref fa) (.view cc f0 :: ps) r) (hj : j ≤ k)
    (hb : attributeBase o name X.env (eval o X.env) = eval o X.env := by rfl) (hline : (apos.endLine == pos.line) = true := by rfl) (hst : (starEach es X.env).any (·.1) = false := by rfl)
    (hlen : es.length < 30 := by decide) : Ev X vs cs (.Call (.Attribute o name apos) es [] pos) r cs2 := by
  intro ts s i
  rw [arm_eval_Call, hb]
  refine wpAny_bind (wm (ho ts s i) fun v s1 i1 => wpAny_bind (wpAny_standAt ?_))
  obtain ⟨F, i1'⟩ := id i1
  obtain ⟨a, d, l, h1, h2, t1, t2, t3, n, m, us, rfl, e1, e2, e3, hi⟩ := isView (i1'.tmp _ (.head _))
  have hform : methodCallForm (es.length + ([] : List Keyword).length) (backTo pos (starEach es X.env)) (backToKw pos (keywordEach [] X.env)) = true := by
    unfold methodCallForm
    have h1 : (backTo pos (starEach es X.env)).all (fun x => !x.1) = true := by
      have := star_none (pos := pos) hst
      rw [List.all_eq_true]; intro x hx
      rw [List.any_eq_false] at this
      simpa using this x hx
    rw [h1]
    simp only [backToKw, keywordEach, List.map_nil, List.all_nil, List.isEmpty_nil, if_true, Bool.true_and, decide_eq_true_eq, List.length_nil, Nat.add_zero]
    exact hlen
  have hpos : methodCallPos true o X.env apos pos = pure pos := by unfold methodCallPos; simp [hline]
  unfold methodCall
  rw [hform]
  refine wpAny_bind (wpAny_holding ?_)
  refine method_fn i1'.inK (instOf (i1'.on _ _ e1) (i1'.on _ _ e2)) K.ga K.gn hf.1 hf.2 (by
    unfold shadowIn lookIn dictOf
    simp only [List.find?_cons, Value.isStr, hne.1, hne.2, List.find?_nil, List.any_cons, List.any_nil]
    rfl) ?_
  refine wpAny_bind (wpAny_of_eq hpos ?_)
  obtain ⟨ofn, fd, hof, hdf⟩ := hfn.h
  refine callWith_function (o := ofn) (fd := fd) (evalArgs_of (star_none hst) (wm (ha _ s1 i1) fun us2 s2 ⟨l2, i2⟩ => ?_))
  refine ⟨⟨let ⟨F, y⟩ := i2; y.inK _ _ hof, hdf⟩, ?_⟩
  refine run_pure (us := .ref a :: us2) (ps := .view cc f0 :: ps) h hj (by simp [l2]) (i2.sub fun t ht => ?_)
  simp only [List.zip_cons_cons, List.cons_append, List.mem_cons, List.mem_append] at ht ⊢
  rcases ht with h | h | h
  · exact .inr (.inl h)
  · exact .inl h
  · exact .inr (.inr h)
end
end Mine

end
section
open PySem PySem.W PyProof.Rows
namespace Mine
open PySem PySem.Calls PySem.W PyProof.Rows PySem.Builtin.Str

section
variable {c : Cx} {k : Nat} {ks gl : List Str} {cl : List (Str × Addr)} {X : Fx c k ks gl cl} {F : Fz} {vs vs1 vs' : List (Option PV)} {cs cs1 cs2 cs3 cs4 : Cells} {ts ts' : List (Value × PV)} {s : Shared}

/-! the library's ledgers, taken for a state of ours -/
abbrev h00 : Heap := {}
theorem h00_get (a : Addr) : h00.get? a = none := by
  cases e : h00.get? a with
  | none => rfl
  | some o => exact absurd (Heap.lt_size e) (Nat.not_lt_zero _)
noncomputable def allBut (h : Heap) (L : Addr) : List (Addr × Obj) := (List.range h.objs.size).filterMap fun a => if a = L then none else (h.get? a).map fun o => (a, o)
theorem mem_allBut {h : Heap} {L a : Addr} {o : Obj} : (a, o) ∈ allBut h L ↔ a ≠ L ∧ h.get? a = some o := by
  unfold allBut
  rw [List.mem_filterMap]
  constructor
  · rintro ⟨b, hb, e⟩
    split at e
    · cases e
    · rename_i n
      cases q : h.get? b with
      | none => rw [q] at e; cases e
      | some o' => rw [q] at e; simp only [Option.map_some, Option.some.injEq, Prod.mk.injEq] at e; obtain ⟨rfl, rfl⟩ := e; exact ⟨n, q⟩
  · rintro ⟨n, e⟩
    exact ⟨a, List.mem_range.mpr (Heap.lt_size e), by rw [if_neg n, e]; rfl⟩
theorem InvF.keepsL (x : InvF X F vs cs ts s) {m : Str → Option Value} (hm : ∀ x p, GetAt ks vs x p → ∃ v, m x = some v ∧ Is F p v) {h : Heap} {t : Nat} (hn : h.Ns X.env.locals m)
    (kp : ∀ b o, b ≠ X.env.locals → s.heap.get? b = some o → h.get? b = some o) : InvF X F vs cs ts { s with heap := h, toks := t } where
  st := by obtain ⟨h0, t0, e⟩ := x.st; exact ⟨h, t, by rw [e]⟩
  on := fun a o e => kp a o (fun q => by rw [q, x.nL.1] at e; cases e) (x.on a o e)
  le := x.le
  fresh := x.fresh
  keep := fun a o e n => kp a o (fun q => absurd (Nat.lt_of_lt_of_le (Heap.lt_size e) X.above) (by rw [q]; exact Nat.lt_irrefl _)) (x.keep a o e n)
  wr := fun a ha => let ⟨h1, o, h2⟩ := x.wr a ha; ⟨h1, o, kp a o (fun q => x.nL.2 (q ▸ ha)) h2⟩
  loc := ⟨m, hn, hm⟩
  nL := x.nL
  cell := fun z hz => let ⟨h1, h2, h3, h4⟩ := x.cell z hz; ⟨h1.mono (Fz.le_refl _) fun o e => kp _ o h3 e, h2, h3, h4⟩
  nd := x.nd
  tmp := x.tmp
theorem InvF.viaN (x : InvF X F vs cs ts s) : ∃ m news, Fr h00 X.env.locals s.heap m ∧ News h00 X.env.locals s.heap news ∧
    (∀ h' tk, Fr h00 X.env.locals h' m → News h00 X.env.locals h' news → InvF X F vs cs ts { s with heap := h', toks := tk }) ∧
    (∀ h' tk a o, Fr h00 X.env.locals h' m → News h00 X.env.locals h' ((a, o) :: news) → s.heap.objs.size ≤ a → InvF X (F.add a o) vs cs ts { s with heap := h', toks := tk }) := by
  obtain ⟨m, hn, hm⟩ := x.loc
  have kp : ∀ h' news', News h00 X.env.locals h' news' → (∀ p ∈ allBut s.heap X.env.locals, p ∈ news') → ∀ b o, b ≠ X.env.locals → s.heap.get? b = some o → h'.get? b = some o :=
    fun h' news' N hs b o nb e => (N (b, o) (hs _ (mem_allBut.mpr ⟨nb, e⟩))).1
  refine ⟨m, allBut s.heap X.env.locals, ⟨hn, (fun b o e => by rw [h00_get] at e; cases e), Nat.zero_le _⟩, fun p hp => ?_, fun h' tk Fh N => ?_, fun h' tk a o Fh N ha => ?_⟩
  · obtain ⟨a, o⟩ := p
    have := mem_allBut.mp hp
    exact ⟨this.2, this.1, h00_get _⟩
  · exact x.keepsL hm Fh.ns (kp h' _ N fun p hp => hp)
  · have y := x.keepsL (t := tk) hm Fh.ns (kp h' _ N fun p hp => .tail _ hp)
    have hn' : F a = none := x.new ha
    have hna : ∀ b o', s.heap.get? b = some o' → b ≠ a := fun b o' e q => absurd (Heap.lt_size e) (by rw [q]; exact Nat.not_lt.mpr ha)
    refine y.grow (Fz.le_add hn') (fun b p e => ?_) (fun b p e n hc => ?_)
    · by_cases q : b = a
      · subst q; rw [Fz.add_self] at e; cases e; exact (N _ (.head _)).1
      · rw [Fz.add_ne q] at e; exact y.on b p e
    · have q : b ≠ a := by
        rcases hc with rfl | hw | ⟨z, hz, rfl⟩ | ⟨o', h'⟩
        · obtain ⟨o', _, _, ho', _⟩ := hn; exact hna _ o' ho'
        · obtain ⟨_, o', h''⟩ := x.wr b hw; exact hna _ o' h''
        · obtain ⟨o', h''⟩ := (x.cell z hz).1.some; exact hna _ o' h''
        · intro q; subst q; exact absurd (Nat.lt_trans (Heap.lt_size h') x.big) (Nat.not_lt.mpr ha)
      rw [Fz.add_ne q]; exact n

/-! lists read -/
theorem isList {F : Fz} {ps : List PV} {v : Value} (h : Is F (.list ps) v) : ∃ a us n, v = .ref a ∧ F a = some (listObj us n) ∧ Iss F ps us.toList := by
  cases h with | list h r => exact ⟨_, _, _, rfl, h, r⟩
theorem isTup {F : Fz} {ps : List PV} {v : Value} (h : Is F (.tup ps) v) : ∃ a us n, v = .ref a ∧ F a = some (tupObj us n) ∧ Iss F ps us.toList := by
  cases h with | tup h r => exact ⟨_, _, _, rfl, h, r⟩
theorem isInt {F : Fz} {i : Int} {v : Value} (h : Is F (.int i) v) : ∃ t, v = .int i t := by cases h; exact ⟨_, rfl⟩
theorem isBool {F : Fz} {i : Bool} {v : Value} (h : Is F (.bool i) v) : v = .bool i := by cases h; rfl
theorem isStr {F : Fz} {l : List Nat} {v : Value} (h : Is F (.str l) v) : ∃ t, v = .str ⟨l.toArray⟩ t := by cases h; exact ⟨_, rfl⟩
theorem IsList_of {h : Heap} {a : Addr} {us : Array Value} {n : Nat} (e : h.get? a = some (listObj us n)) : h.IsList a us := ⟨_, e, rfl, n, rfl⟩
theorem args1 {us : List Value} {p : PV} (l : us.length = [p].length) : ∃ u, us = [u] := by
  match us, l with
  | [u], _ => exact ⟨u, rfl⟩
theorem args2 {us : List Value} {p q : PV} (l : us.length = [p, q].length) : ∃ u v, us = [u, v] := by
  match us, l with
  | [u, v], _ => exact ⟨u, v, rfl⟩

theorem Iss.size {F : Fz} {ps : List PV} {us : Array Value} (h : Iss F ps us.toList) : us.size = ps.length := by
  have := h.length; simpa using this.symm
theorem slen (l : List Nat) : (⟨l.toArray⟩ : Str).length = l.length := by show l.toArray.size = _; rw [List.size_toArray]
theorem InvF.inv (x : InvF X F vs cs ts s) : Inv X vs cs ts s := ⟨F, x⟩
theorem InvF.pop {t : Value × PV} (x : InvF X F vs cs (t :: ts) s) : InvF X F vs cs ts s := x.sub fun _ h => .tail _ h
theorem InvF.tok (x : InvF X F vs cs ts s) {t : Nat} : InvF X F vs cs ts { s with toks := t } := x.keeps (Keep.refl _)

theorem bi_len_list {ps : List PV} (h : ps.length < 16777216) : BiR X "len" [.list ps] (.int ps.length) := fun vs cs ts s us l ⟨F, i⟩ => by
  obtain ⟨u, rfl⟩ := args1 l
  obtain ⟨a, us, n, rfl, e, hi⟩ := isList (i.tmp _ (.head _))
  refine len_list (IsList_of (i.on _ _ e)) (by rw [hi.size]; lia) ?_
  rw [hi.size]
  exact i.pop.tok.inv.int
theorem bi_len_cell {ps : List PV} {a : Addr} {vs : List (Option PV)} {cs : Cells} {ts : List (Value × PV)} {s : Shared} (h : ps.length < 16777216) (hc : (a, CV.lst ps) ∈ cs) (i : Inv X vs cs ts s) :
    wpAny (model c.prog c.w) X.A (call (.builtin "len") [.ref a] []) (fun v s' => Inv X vs cs ((v, .int ps.length) :: ts) s') (fun _ _ => False) s := by
  obtain ⟨F, i⟩ := i
  obtain ⟨⟨us, hl, hi⟩, _⟩ := i.cell _ hc
  refine len_list hl.isList (by rw [hi.size]; lia) ?_
  rw [hi.size]
  exact i.tok.inv.int
theorem bi_len_str {l : List Nat} (h : l.length < 16777216) : BiR X "len" [.str l] (.int l.length) := fun vs cs ts s us hl ⟨F, i⟩ => by
  obtain ⟨u, rfl⟩ := args1 hl
  obtain ⟨t, rfl⟩ := isStr (i.tmp _ (.head _))
  refine SBL.len (by rw [slen]; lia) ?_
  rw [slen]
  exact i.pop.tok.inv.int
theorem bi_abs {a : Int} : BiR X "abs" [.int a] (.int (if a < 0 then -a else a)) := fun vs cs ts s us hl ⟨F, i⟩ => by
  obtain ⟨u, rfl⟩ := args1 hl
  obtain ⟨t, rfl⟩ := isInt (i.tmp _ (.head _))
  exact call_abs_int fun u tk => i.pop.tok.inv.int
theorem bi_max {a b : Int} : BiR X "max" [.int a, .int b] (.int (if b > a then b else a)) := fun vs cs ts s us hl ⟨F, i⟩ => by
  obtain ⟨u, v, rfl⟩ := args2 hl
  obtain ⟨t, rfl⟩ := isInt (i.tmp _ (.head _))
  obtain ⟨t', rfl⟩ := isInt (i.tmp (v, .int b) (.tail _ (.head _)))
  have j := i.pop.pop
  obtain ⟨m, news, Fh, Nw, k1, k2⟩ := j.viaN
  exact max_two_N X.rm.hd Fh Nw fun h' tk F' N' => (k1 h' tk F' N').inv.int
theorem bi_min {a b : Int} : BiR X "min" [.int a, .int b] (.int (if b < a then b else a)) := fun vs cs ts s us hl ⟨F, i⟩ => by
  obtain ⟨u, v, rfl⟩ := args2 hl
  obtain ⟨t, rfl⟩ := isInt (i.tmp _ (.head _))
  obtain ⟨t', rfl⟩ := isInt (i.tmp (v, .int b) (.tail _ (.head _)))
  have j := i.pop.pop
  obtain ⟨m, news, Fh, Nw, k1, k2⟩ := j.viaN
  exact min_two_N X.rm.hd Fh Nw fun h' tk F' N' => (k1 h' tk F' N').inv.int
theorem bi_chr {a : Int} (h0 : 0 ≤ a) (h1 : a ≤ 1114111) : BiR X "chr" [.int a] (.str [a.toNat]) := fun vs cs ts s us hl ⟨F, i⟩ => by
  obtain ⟨u, rfl⟩ := args1 hl
  obtain ⟨t, rfl⟩ := isInt (i.tmp _ (.head _))
  exact chr_of_range h0 h1 (i.pop.tok.inv.str (l := [a.toNat]))
theorem bi_ord {a : Nat} : BiR X "ord" [.str [a]] (.int a) := fun vs cs ts s us hl ⟨F, i⟩ => by
  obtain ⟨u, rfl⟩ := args1 hl
  obtain ⟨t, rfl⟩ := isStr (i.tmp _ (.head _))
  exact ord_of_one rfl i.pop.tok.inv.int

/-! displays -/
theorem ev_tuple {es : List Expr} {kk : Nat} {pos : Pos} {ps : List PV} (h : EvL X vs cs pos es ps cs1) (hl : ps.length ≤ 1000) : Ev X vs cs (.Tuple es kk pos) (.tup ps) cs1 := fun ts s i =>
  wpAny_Tuple (wm (h ts s i) fun us s1 ⟨l, ⟨F, i1⟩⟩ => ⟨by rw [sizeLine_eq, l]; lia, by
    have hi := (i1.args l).mono (Fz.le_add (o := tupObj us.toArray 0) (i1.new (Nat.le_refl _)))
    exact ⟨_, (i1.popN.alloc (tupObj us.toArray 0)).push _ _ (.tup (n := 0) Fz.add_self (by simpa using hi))⟩⟩)
theorem ev_list {es : List Expr} {pos : Pos} {ps : List PV} (h : EvL X vs cs pos es ps cs1) (hl : ps.length ≤ 1000) : Ev X vs cs (.List es pos) (.list ps) cs1 := fun ts s i =>
  List_ (wm (h ts s i) fun us s1 ⟨l, ⟨F, i1⟩⟩ => by
    have hi := (i1.args l).mono (Fz.le_add (o := listObj us.toArray 0) (i1.new (Nat.le_refl _)))
    refine wpAny_newObj_type ?_ (by show us.toArray.size ≤ sizeLine; rw [List.size_toArray, sizeLine_eq, l]; lia)
    exact ⟨_, (i1.popN.alloc (listObj us.toArray 0)).push _ _ (.list (n := 0) Fz.add_self (by simpa using hi))⟩)
theorem ev_neg {e : Expr} {pos : Pos} {i : Int} (h : Ev X vs cs e (.int i) cs1) : Ev X vs cs (.UnaryOp .USub e pos) (.int (-i)) cs1 := fun ts s i => by
  show wpAny _ _ (eval e X.env >>= fun v => standAt pos >>= fun _ => holding [v] (unaryOp .USub v)) _ _ _
  refine wpAny_bind (wm (h ts s i) fun v s1 i1 => wpAny_bind (wpAny_standAt (wpAny_holding ?_)))
  obtain ⟨t, rfl⟩ := i1.tint
  exact neg_int i1.pop.tok.int

/-! subscripts -/
theorem eval_sub (value slice : Expr) (pos : Pos) (env : Env) : eval (.Subscript value slice pos) env = (do let o ← eval value env; let i ← holding [o] (eval slice env); standAt pos; subscriptTail value slice o i) := rfl
theorem ev_sub {value slice : Expr} {pos : Pos} {p q r : PV} (hv : Ev X vs cs value p cs1) (hi : Ev X vs cs1 slice q cs2)
    (h : ∀ ts s F u v, InvF X F vs cs2 ((v, q) :: (u, p) :: ts) s → ∃ T id, typeLookup (.type T) "__getitem__" = pure (some (.builtin id)) ∧ s.TypeIs u T ∧ wpAny (model c.prog c.w) X.A (getItem u v) (fun y s' => Inv X vs cs2 ((y, r) :: ts) s') (fun _ _ => False) s)
    (hs : ∀ o i, subscripted slice false o i = operate [o, i] (getItem o i) := by intro _ _; with_unfolding_all rfl) : Ev X vs cs (.Subscript value slice pos) r cs2 := fun ts s i => by
  rw [eval_sub]
  refine wpAny_bind (wm (hv ts s i) fun u s1 i1 => wpAny_bind (wpAny_holding (wm (hi _ s1 i1) fun v s2 ⟨F, i2⟩ => wpAny_bind (wpAny_standAt ?_))))
  obtain ⟨T, id, h1, h2, h3⟩ := h ts s2 F u v i2
  exact tail_any h2 h1 h3 (hs u v)
theorem InvF.pop2 {t u : Value × PV} (x : InvF X F vs cs (t :: u :: ts) s) : InvF X F vs cs ts s := x.sub fun _ h => .tail _ (.tail _ h)
/-- an item of a list -/
theorem ev_item {value slice : Expr} {pos : Pos} {ps : List PV} {i : Int} {p : PV} (hv : Ev X vs cs value (.list ps) cs1) (hi : Ev X vs cs1 slice (.int i) cs2) (h0 : 0 ≤ i) (hl : i < 16777216) (hp : ps[i.toNat]? = some p)
    (hs : ∀ o i, subscripted slice false o i = operate [o, i] (getItem o i) := by intro _ _; with_unfolding_all rfl) : Ev X vs cs (.Subscript value slice pos) p cs2 :=
  ev_sub hv hi (fun ts s F u v x => by
    obtain ⟨a, us, n, rfl, e, his⟩ := isList (x.tmp _ (.tail _ (.head _)))
    obtain ⟨t, rfl⟩ := isInt (x.tmp _ (.head _))
    obtain ⟨y, hy, hiy⟩ := his.get _ _ hp
    have L := IsList_of (x.on _ _ e)
    exact ⟨_, _, slot_list_getitem.lookup, L.typeIs, wpAny_getItem_list L h0 (by lia) (by simpa using hy) (x.pop2.push _ _ hiy).inv⟩) hs
/-- the last item of a list -/
theorem ev_last {value slice : Expr} {pos : Pos} {ps : List PV} {p : PV} (hv : Ev X vs cs value (.list ps) cs1) (hi : Ev X vs cs1 slice (.int (-1)) cs2) (hl : ps.length < 16777216) (hp : ps.getLast? = some p)
    (hs : ∀ o i, subscripted slice false o i = operate [o, i] (getItem o i) := by intro _ _; with_unfolding_all rfl) : Ev X vs cs (.Subscript value slice pos) p cs2 :=
  ev_sub hv hi (fun ts s F u v x => by
    obtain ⟨a, us, n, rfl, e, his⟩ := isList (x.tmp _ (.tail _ (.head _)))
    obtain ⟨t, rfl⟩ := isInt (x.tmp _ (.head _))
    have hpos : 0 < ps.length := by cases ps with | nil => simp at hp | cons _ _ => simp
    have hp' : ps[ps.length - 1]? = some p := by rw [← hp, List.getLast?_eq_getElem?]
    obtain ⟨y, hy, hiy⟩ := his.get _ _ hp'
    have hsz := his.size
    have L := IsList_of (x.on _ _ e)
    refine ⟨_, _, slot_list_getitem.lookup, L.typeIs, wpAny_getItem_list_neg L (by decide) (by lia) (by decide) ?_ (x.pop2.push _ _ hiy).inv⟩
    rw [show ((-1 : Int) + (us.size : Int)).toNat = ps.length - 1 by lia]
    simpa using hy) hs
/-- an item of a text -/
theorem ev_sign {value slice : Expr} {pos : Pos} {l : List Nat} {i : Int} {a : Nat} (hv : Ev X vs cs value (.str l) cs1) (hi : Ev X vs cs1 slice (.int i) cs2) (h0 : 0 ≤ i) (hl : i < 16777216) (hp : l[i.toNat]? = some a)
    (hs : ∀ o i, subscripted slice false o i = operate [o, i] (getItem o i) := by intro _ _; with_unfolding_all rfl) : Ev X vs cs (.Subscript value slice pos) (.str [a]) cs2 :=
  ev_sub hv hi (fun ts s F u v x => by
    obtain ⟨t', rfl⟩ := isStr (x.tmp _ (.tail _ (.head _)))
    obtain ⟨t, rfl⟩ := isInt (x.tmp _ (.head _))
    have hlt : i.toNat < l.length := by
      rcases Nat.lt_or_ge i.toNat l.length with h | h
      · exact h
      · rw [List.getElem?_eq_none h] at hp; cases hp
    have hc : Txt.charAt ⟨l.toArray⟩ i = some a := by
      unfold Txt.charAt
      have : seqIndex? i (⟨l.toArray⟩ : Str).length = some i.toNat := by
        rw [slen]
        unfold seqIndex?
        dsimp only
        rw [if_neg (show ¬ i < 0 by lia), if_pos (by rw [Bool.and_eq_true, decide_eq_true_eq, decide_eq_true_eq]; lia)]
      rw [this]
      show l.toArray[i.toNat]? = _
      simpa using hp
    refine SB.item (by unfold fitsSsize; simp; lia) (by rw [hc]; rfl) ?_
    have : Txt.item ⟨l.toArray⟩ i = ⟨[a].toArray⟩ := by unfold Txt.item; rw [hc]; rfl
    rw [this]
    exact x.pop2.tok.inv.str) hs

/-! slices -/
noncomputable def partPV : Option Int → PV
  | none => .none
  | some i => .int i
theorem isPart {F : Fz} {o : Option Int} {v : Value} (h : Is F (partPV o) v) : IsPart v o ∧ ∃ ot : Option (Int × Tok), v = partValue ot ∧ ot.map (·.1) = o := by
  cases o with
  | none => cases h; exact ⟨.none, none, rfl, rfl⟩
  | some i => cases h; rename_i t; exact ⟨.int _ _, some (i, t), rfl, rfl⟩
noncomputable def EvO (X : Fx c k ks gl cl) (vs : List (Option PV)) (cs : Cells) (e : Option Expr) (o : Option Int) (cs' : Cells) : Prop :=
  ∀ ts s, Inv X vs cs ts s → wpAny (model c.prog c.w) X.A (valueOrNone (evalOpt e X.env)) (fun v s' => Inv X vs cs' ((v, partPV o) :: ts) s') (fun _ _ => False) s
theorem eo_none : EvO X vs cs none none cs := fun ts s i => wpAny_pure i.none
theorem eo_some {e : Expr} {i : Int} (h : Ev X vs cs e (.int i) cs1) : EvO X vs cs (some e) (some i) cs1 := fun ts s j => h ts s j
theorem eval_slice (l u st : Option Expr) (p : Pos) (env : Env) : eval (.Slice l u st p) env = (do let a ← valueOrNone (evalOpt l env); let b ← holding [a] (valueOrNone (evalOpt u env)); let d ← holding [a, b] (valueOrNone (evalOpt st env)); newFields "slice" [a, b, d]) := rfl
theorem ev_slice {value : Expr} {l u st : Option Expr} {sp pos : Pos} {p r : PV} {lo hi step : Option Int} (hv : Ev X vs cs value p cs1) (hl : EvO X vs cs1 l lo cs2) (hu : EvO X vs cs2 u hi cs3) (hst : EvO X vs cs3 st step cs4)
    (h : ∀ ts s F u sl vl vu vst, InvF X F vs cs4 ((u, p) :: ts) s → s.heap.IsSliceOf sl vl vu vst → Is F (partPV lo) vl → Is F (partPV hi) vu → Is F (partPV step) vst →
      ∃ T id, typeLookup (.type T) "__getitem__" = pure (some (.builtin id)) ∧ s.TypeIs u T ∧ wpAny (model c.prog c.w) X.A (getItem u (.ref sl)) (fun y s' => Inv X vs cs4 ((y, r) :: ts) s') (fun _ _ => False) s)
    (hs : ∀ o i, ∃ ops, subscripted (.Slice l u st sp) false o i = operate ops (getItem o i) := by intro _ _; exact ⟨_, by with_unfolding_all rfl⟩) : Ev X vs cs (.Subscript value (.Slice l u st sp) pos) r cs4 := fun ts s i => by
  rw [eval_sub, eval_slice]
  refine wpAny_bind (wm (hv ts s i) fun u0 s1 i1 => wpAny_bind (wpAny_holding (wpAny_bind (wm (hl _ s1 i1) fun a s2 i2 => wpAny_bind (wpAny_holding (wm (hu _ s2 i2) fun b s3 i3 => wpAny_bind (wpAny_holding (wm (hst _ s3 i3) fun d s4 ⟨F, i4⟩ => ?_))))))))
  refine wpAny_newObj_type (wpAny_bind (wpAny_standAt ?_)) (by show (3 : Nat) ≤ _; rw [sizeLine_eq]; lia)
  have i5 := i4.keeps (t := s4.toks) (Keep.push s4.heap { cls := .type "slice", data := .fields #[a, b, d] })
  obtain ⟨T, id, h1, h2, h3⟩ := h ts _ F u0 s4.heap.objs.size a b d (i5.sub (by intro t ht; simp only [List.mem_cons] at ht ⊢; rcases ht with h | h <;> simp [h])) (.new s4.heap a b d)
    (i4.tmp _ (.tail _ (.tail _ (.head _)))) (i4.tmp _ (.tail _ (.head _))) (i4.tmp _ (.head _))
  obtain ⟨ops, ho⟩ := hs u0 (.ref s4.heap.objs.size)
  exact tail_any h2 h1 h3 ho
/-- the cut of a list -/
noncomputable def cut {α : Type} (l : List α) (lo hi : Option Int) : List α := (l.drop (kms_lo lo l.length)).take (kms_hi hi l.length - kms_lo lo l.length)
theorem Iss.cut {F : Fz} {ps : List PV} {us : List Value} (h : Iss F ps us) (lo hi : Option Int) : Iss F (Mine.cut ps lo hi) (Mine.cut us lo hi) := by
  unfold Mine.cut
  rw [h.length]
  exact (h.drop _).take _
theorem kms_hi_le (hi : Option Int) (n : Nat) : kms_hi hi n ≤ n := by
  unfold kms_hi; split
  · exact Nat.le_refl _
  · split <;> lia
theorem strSlice_run (lo hi : Option Int) (n : Nat) : strSliceIndices lo hi 1 n = (List.range (kms_hi hi n - kms_lo lo n)).map fun k => kms_lo lo n + k := by
  have e : strSliceIndices lo hi 1 n = sliceRange (sliceBounds lo hi none n).1 (sliceBounds lo hi none n).2.1 1 := by
    unfold strSliceIndices sliceBounds
    cases lo <;> cases hi <;> rfl
  rw [e, kms_bounds]
  dsimp only
  generalize kms_lo lo n = a
  generalize kms_hi hi n = b
  unfold sliceRange
  simp only [show (1 : Int) > 0 by decide, if_true]
  by_cases h : (a : Int) < b
  · have : (((b : Int) - a + 1 - 1) / 1).toNat = b - a := by lia
    rw [if_pos h, this]
    refine List.map_congr_left fun k _ => ?_
    lia
  · have : b - a = 0 := by lia
    rw [if_neg h, this]; rfl
theorem strSlice_cut (l : List Nat) (lo hi : Option Int) : (strSliceIndices lo hi 1 l.length).filterMap ((⟨l.toArray⟩ : Str).cps[·]?) = cut l lo hi := by
  rw [strSlice_run]
  unfold cut
  have hb := kms_hi_le hi l.length
  by_cases h : kms_lo lo l.length ≤ kms_hi hi l.length
  · have := StrLaws.picks l (kms_hi hi l.length - kms_lo lo l.length) (kms_lo lo l.length) (by lia)
    rw [← this]
    congr 1
    funext i
    exact List.getElem?_toArray
  · have : kms_hi hi l.length - kms_lo lo l.length = 0 := by lia
    rw [this]; simp
theorem strSlice_len (l : List Nat) (lo hi : Option Int) : (strSliceIndices lo hi 1 l.length).length = (cut l lo hi).length := by
  rw [strSlice_run]
  unfold cut
  have hb := kms_hi_le hi l.length
  rw [List.length_map, List.length_range, List.length_take, List.length_drop]
  lia
theorem cut_length_le {α : Type} (l : List α) (lo hi : Option Int) : (cut l lo hi).length ≤ l.length := by
  unfold cut; rw [List.length_take, List.length_drop]; lia
theorem ev_cut_str {value : Expr} {l u : Option Expr} {sp pos : Pos} {x : List Nat} {lo hi : Option Int} (hv : Ev X vs cs value (.str x) cs1) (hl : EvO X vs cs1 l lo cs2) (hu : EvO X vs cs2 u hi cs3) (hx : x.length ≤ 16777216)
    (hs : ∀ o i, ∃ ops, subscripted (.Slice l u none sp) false o i = operate ops (getItem o i) := by intro _ _; exact ⟨_, by with_unfolding_all rfl⟩) :
    Ev X vs cs (.Subscript value (.Slice l u none sp) pos) (.str (cut x lo hi)) cs3 :=
  ev_slice hv hl hu eo_none (fun ts s F u sl vl vu vst i hs h1 h2 h3 => by
    obtain ⟨t, rfl⟩ := isStr (i.tmp _ (.head _))
    refine ⟨_, _, slot_str_getitem.lookup, typeIs_str _ _ _, ?_⟩
    obtain ⟨_, o1, e1, f1⟩ := isPart h1
    obtain ⟨_, o2, e2, f2⟩ := isPart h2
    obtain ⟨_, o3, e3, f3⟩ := isPart (o := none) h3
    obtain ⟨o, ho, hc, hd⟩ := hs
    rw [e1, e2, e3] at hd
    refine wpAny_getItem_str_slice ⟨o, ho, hc, hd⟩ (by rw [f3]; rfl) ?_
    have ep : slicePicked ⟨x.toArray⟩ o1 o2 o3 = strSliceIndices lo hi 1 x.length := by
      unfold slicePicked; rw [f1, f2, f3, slen]; rfl
    unfold sliceMade
    split
    · rename_i hq
      rw [Bool.and_eq_true, beq_iff_eq, beq_iff_eq, ep, strSlice_len, slen] at hq
      have : cut x lo hi = x := ((List.take_sublist _ _).trans (List.drop_sublist _ _)).eq_of_length hq.2
      show Inv X vs cs3 ((.str ⟨x.toArray⟩ t, .str (cut x lo hi)) :: ts) s
      rw [this]; exact i.pop.inv.str
    · rw [ep, strSlice_cut]
      exact ⟨by rw [slen, sizeLine_eq]; exact Nat.le_trans (cut_length_le ..) hx, i.pop.tok.inv.str⟩)
    hs
theorem ev_cut_list {value : Expr} {l u : Option Expr} {sp pos : Pos} {x : List PV} {lo hi : Option Int} (hv : Ev X vs cs value (.list x) cs1) (hl : EvO X vs cs1 l lo cs2) (hu : EvO X vs cs2 u hi cs3) (hx : x.length ≤ 16777216)
    (hs : ∀ o i, ∃ ops, subscripted (.Slice l u none sp) false o i = operate ops (getItem o i) := by intro _ _; exact ⟨_, by with_unfolding_all rfl⟩) :
    Ev X vs cs (.Subscript value (.Slice l u none sp) pos) (.list (cut x lo hi)) cs3 :=
  ev_slice hv hl hu eo_none (fun ts s F u sl vl vu vst i hs h1 h2 h3 => by
    obtain ⟨a, us, n, rfl, e, his⟩ := isList (i.tmp _ (.head _))
    have L := IsList_of (i.on _ _ e)
    refine ⟨_, _, slot_list_getitem.lookup, L.typeIs, wpAny_getItem_list_slice L hs (isPart h1).1 (isPart h2).1 (isPart (o := none) h3).1 (by simp) ?_ (by rw [his.size, sizeLine_eq]; exact hx)⟩
    rw [kms_pick_eq]
    have hi' : Iss F (cut x lo hi) (kms_pick us.toList lo hi) := his.cut lo hi
    have hi2 := hi'.mono (Fz.le_add (o := listObj (kms_pick us.toList lo hi).toArray 0) (i.new (Nat.le_refl _)))
    exact ⟨_, (i.pop.alloc (listObj (kms_pick us.toList lo hi).toArray 0)).push _ _ (.list (n := 0) Fz.add_self (by simpa using hi2))⟩)
    hs
theorem ev_rev_cell {value : Expr} {st : Option Expr} {sp pos : Pos} {x : List PV} {a : Addr} (hv : Ev X vs cs value (.raw (.ref a)) cs1) (hst : EvO X vs cs1 st (some (-1)) cs2) (hc : (a, CV.lst x) ∈ cs2) (hx : x.length ≤ 16777216)
    (hs : ∀ o i, ∃ ops, subscripted (.Slice none none st sp) false o i = operate ops (getItem o i) := by intro _ _; exact ⟨_, by with_unfolding_all rfl⟩) :
    Ev X vs cs (.Subscript value (.Slice none none st sp) pos) (.list x.reverse) cs2 :=
  ev_slice hv eo_none eo_none hst (fun ts s F u sl vl vu vst i hs h1 h2 h3 => by
    have := (i.tmp _ (.head _)).traw; subst this
    obtain ⟨⟨us, hl, his⟩, _⟩ := i.cell _ hc
    have L := hl.isList
    refine ⟨_, _, slot_list_getitem.lookup, L.typeIs, wpAny_getItem_list_slice L hs (isPart (o := none) h1).1 (isPart (o := none) h2).1 (isPart (o := some (-1)) h3).1 (by simp) ?_ (by rw [his.size, sizeLine_eq]; exact hx)⟩
    rw [krv_pick]
    have hi2 := his.reverse.mono (Fz.le_add (o := listObj us.toList.reverse.toArray 0) (i.new (Nat.le_refl _)))
    exact ⟨_, (i.pop.alloc (listObj us.toList.reverse.toArray 0)).push _ _ (.list (n := 0) Fz.add_self (by simpa using hi2))⟩)
    hs
end
end Mine

end
section
open PySem PySem.W PyProof.Rows
namespace Mine
open PySem PySem.Calls PySem.W PyProof.Rows PySem.Builtin.Str

/-! texts as lists of numbers -/
noncomputable def bl (n : Nat) : Bool := n == 32 || n == 9
noncomputable def lstr (l : List Nat) : List Nat := l.dropWhile bl
noncomputable def rstr (l : List Nat) : List Nat := (l.reverse.dropWhile bl).reverse
noncomputable def strp (l : List Nat) : List Nat := rstr (lstr l)
/-- the lines of a text -/
noncomputable def spl : List Nat → List (List Nat)
  | [] => [[]]
  | n :: r => if n = 10 then [] :: spl r else match spl r with
    | [] => [[n]]
    | y :: ys => (n :: y) :: ys
/-- the lines put together -/
noncomputable def unl : List (List Nat) → List Nat
  | [] => []
  | [x] => x
  | x :: y :: r => x ++ 10 :: unl (y :: r)
noncomputable def mkS (l : List Nat) : Str := ⟨l.toArray⟩
theorem mkS_toList (x : Str) : mkS x.cps.toList = x := by cases x; rfl
theorem mkS_inj {a b : List Nat} (h : mkS a = mkS b) : a = b := by
  have := congrArg (fun x : Str => x.cps.toList) h
  simpa [mkS] using this
theorem bl_chars : ((⟨[32, 9].toArray⟩ : Str).cps.contains : Nat → Bool) = bl := by
  funext n
  show (#[32, 9] : Array Nat).contains n = _
  unfold bl
  by_cases h : n = 32 <;> by_cases h' : n = 9 <;> simp [h, h', Array.contains] <;> omega

theorem dropWhile_eq_drop {α : Type} (p : α → Bool) : ∀ l : List α, l.drop (l.takeWhile p).length = l.dropWhile p
  | [] => rfl
  | a :: r => by
    rw [List.takeWhile_cons, List.dropWhile_cons]
    split
    · simp [dropWhile_eq_drop p r]
    · rfl
theorem strip_sub (l : List Nat) (lft rgt : Bool) : strSub ⟨l.toArray⟩ (stripLo bl lft ⟨l.toArray⟩) (stripHi bl rgt ⟨l.toArray⟩ (stripLo bl lft ⟨l.toArray⟩)) = mkS (if rgt then rstr (if lft then lstr l else l) else if lft then lstr l else l) := by
  apply Str.ext'
  apply Array.toList_inj.mp
  rw [StrLaws.strSub_toList]
  show _ = (if rgt then rstr (if lft then lstr l else l) else if lft then lstr l else l)
  have hlo : (l.drop (stripLo bl lft ⟨l.toArray⟩)) = if lft then lstr l else l := by
    unfold stripLo
    cases lft
    · rfl
    · simp only [if_true]; exact dropWhile_eq_drop bl l
  have hloN : stripLo bl lft ⟨l.toArray⟩ + (if lft then lstr l else l).length = l.length := by
    rw [← hlo, List.length_drop]
    have : stripLo bl lft ⟨l.toArray⟩ ≤ l.length := by
      unfold stripLo
      cases lft
      · exact Nat.zero_le _
      · simp only [if_true]; exact (List.takeWhile_sublist bl).length_le
    omega
  show (l.drop (stripLo bl lft ⟨l.toArray⟩)).take _ = _
  generalize hL : (if lft then lstr l else l) = L at hlo hloN ⊢
  unfold stripHi
  show (l.drop _).take ((if rgt then l.toArray.size - ((l.drop (stripLo bl lft ⟨l.toArray⟩)).reverse.takeWhile bl).length else l.toArray.size) - _) = _
  rw [hlo, List.size_toArray]
  cases rgt
  · simp only [Bool.false_eq_true, if_false]
    exact List.take_of_length_le (by omega)
  · simp only [if_true]
    unfold rstr
    rw [← dropWhile_eq_drop, List.drop_reverse, List.reverse_reverse]
    congr 1
    omega
theorem lstrip_eq (l : List Nat) : Txt.lstripChars ⟨l.toArray⟩ ⟨[32, 9].toArray⟩ = mkS (lstr l) := by
  unfold Txt.lstripChars
  rw [bl_chars, PyProof.Rows.stripBy_eq]; exact strip_sub l true false
theorem rstrip_eq (l : List Nat) : Txt.rstripChars ⟨l.toArray⟩ ⟨[32, 9].toArray⟩ = mkS (rstr l) := by
  unfold Txt.rstripChars
  rw [bl_chars, PyProof.Rows.stripBy_eq]; exact strip_sub l false true
theorem strip_eq (l : List Nat) : Txt.stripChars ⟨l.toArray⟩ ⟨[32, 9].toArray⟩ = mkS (strp l) := by
  unfold Txt.stripChars
  rw [bl_chars, PyProof.Rows.stripBy_eq]; exact strip_sub l true true

theorem spl_ne : ∀ l, spl l ≠ []
  | [] => by simp [spl]
  | n :: r => by
    unfold spl; split
    · simp
    · split <;> simp
theorem unl_cons {x : List Nat} {r : List (List Nat)} (h : r ≠ []) : unl (x :: r) = x ++ 10 :: unl r := by
  cases r with
  | nil => exact absurd rfl h
  | cons y r => rfl
theorem unl_spl : ∀ l, unl (spl l) = l
  | [] => rfl
  | n :: r => by
    have ih := unl_spl r
    unfold spl
    split
    · rename_i h; rw [unl_cons (spl_ne r), ih, h]; rfl
    · have := spl_ne r
      revert ih this
      cases spl r with
      | nil => intro _ h; exact absurd rfl h
      | cons y ys =>
        intro ih _
        show unl ((n :: y) :: ys) = n :: r
        rw [← ih]
        cases ys <;> rfl
theorem spl_free : ∀ l, ∀ p ∈ spl l, 10 ∉ p
  | [], p, h => by simp [spl] at h; subst h; simp
  | n :: r, p, h => by
    have ih := spl_free r
    unfold spl at h
    split at h
    · rcases List.mem_cons.mp h with rfl | h
      · simp
      · exact ih p h
    · rename_i hn
      revert ih h
      cases spl r with
      | nil => intro _ h; simp at h; subst h; simp; omega
      | cons y ys =>
        intro ih h
        rcases List.mem_cons.mp h with rfl | h
        · intro hm
          rcases List.mem_cons.mp hm with h' | h'
          · exact hn h'.symm
          · exact ih y (.head _) h'
        · exact ih p (.tail _ h)
/-- a text without line ends in front of the first end -/
theorem spl_app {x : List Nat} (h : 10 ∉ x) (r : List Nat) : spl (x ++ 10 :: r) = x :: spl r := by
  induction x with
  | nil => simp [spl]
  | cons n x ih =>
    have hn : n ≠ 10 := fun e => h (by simp [e])
    have ih := ih fun m => h (.tail _ m)
    rw [List.cons_append, spl, if_neg hn, ih]
theorem spl_one {x : List Nat} (h : 10 ∉ x) : spl x = [x] := by
  induction x with
  | nil => rfl
  | cons n x ih =>
    have hn : n ≠ 10 := fun e => h (by simp [e])
    have ih := ih fun m => h (.tail _ m)
    rw [spl, if_neg hn, ih]
theorem spl_unl : ∀ ls : List (List Nat), ls ≠ [] → (∀ p ∈ ls, 10 ∉ p) → spl (unl ls) = ls
  | [], h, _ => absurd rfl h
  | [x], _, hf => spl_one (hf x (.head _))
  | x :: y :: r, _, hf => by
    rw [unl_cons (by simp), spl_app (hf x (.head _)), spl_unl (y :: r) (by simp) fun p hp => hf p (.tail _ hp)]

theorem join_nl (ls : List (List Nat)) : Str.join ⟨#[10]⟩ (ls.map mkS) = mkS (unl ls) := by
  induction ls with
  | nil => rfl
  | cons x r ih =>
    cases r with
    | nil => rfl
    | cons y r =>
      show mkS x ++ (⟨#[10]⟩ : Str) ++ Str.join ⟨#[10]⟩ ((y :: r).map mkS) = _
      rw [ih]
      apply Str.ext'
      apply Array.toList_inj.mp
      simp [mkS, Str.cps_append, unl]
theorem join_none (ls : List (List Nat)) : Str.join ⟨#[]⟩ (ls.map mkS) = mkS ls.flatten := by
  induction ls with
  | nil => rfl
  | cons x r ih =>
    cases r with
    | nil => simp [Str.join, mkS]
    | cons y r =>
      show mkS x ++ (⟨#[]⟩ : Str) ++ Str.join ⟨#[]⟩ ((y :: r).map mkS) = _
      rw [ih]
      apply Str.ext'
      apply Array.toList_inj.mp
      simp [mkS, Str.cps_append]
theorem split_ne (x y : Str) : Txt.split x y ≠ [] := by
  unfold Txt.split
  split
  · simp
  · split
    · simp
    · intro h
      have := len_partsBetween x (occurrences x y 0 x.length (x.length + 1)) y.length
      rw [h] at this
      simp at this
theorem split_nl (l : List Nat) : Txt.split ⟨l.toArray⟩ ⟨#[10]⟩ = (spl l).map mkS := by
  have h1 := StrLaws.join_split ⟨l.toArray⟩ ⟨#[10]⟩
  have h2 := StrLaws.split_free ⟨l.toArray⟩ 10
  have h0 := split_ne ⟨l.toArray⟩ ⟨#[10]⟩
  generalize Txt.split ⟨l.toArray⟩ ⟨#[10]⟩ = L at h0 h1 h2
  have e : L = (L.map fun x => x.cps.toList).map mkS := by
    rw [List.map_map]
    conv => lhs; rw [← List.map_id L]
    exact List.map_congr_left fun x _ => (mkS_toList x).symm
  rw [e, join_nl] at h1
  have h3 := mkS_inj (b := l) h1
  have hne : (L.map fun x => x.cps.toList) ≠ [] := by simpa using h0
  rw [e, ← h3, spl_unl _ hne]
  intro p hp
  obtain ⟨x, hx, rfl⟩ := List.mem_map.mp hp
  exact h2 x hx

/-- expandtabs -/
noncomputable def expt (w : Nat) : Nat → List Nat → List Nat
  | _, [] => []
  | col, n :: r => if n = 9 then List.replicate (w - col % w) 32 ++ expt w (col + (w - col % w)) r
    else n :: expt w (if n = 10 ∨ n = 13 then 0 else col + 1) r
theorem expt_none (w : Nat) : ∀ (col : Nat) (l : List Nat), 9 ∉ l → expt w col l = l
  | _, [], _ => rfl
  | col, n :: r, h => by
    rw [expt, if_neg (fun e => h (by simp [e])), expt_none w _ r fun m => h (.tail _ m)]
noncomputable def exptBody (size : Int) (c : Nat) (st : Array Nat × Nat) : Sem (ForInStep (Array Nat × Nat)) :=
  if (c == 9) = true then
    if tooLong (st.1.size + (if size > 0 then size.toNat - st.2 % size.toNat else 0)) = true then (do
      let _r : Unit ← unsupported "str.expandtabs:memory"
      pure (ForInStep.yield (st.1 ++ Array.replicate (if size > 0 then size.toNat - st.2 % size.toNat else 0) 32, st.2 + (if size > 0 then size.toNat - st.2 % size.toNat else 0))))
    else pure (ForInStep.yield (st.1 ++ Array.replicate (if size > 0 then size.toNat - st.2 % size.toNat else 0) 32, st.2 + (if size > 0 then size.toNat - st.2 % size.toNat else 0)))
  else pure (ForInStep.yield (st.1.push c, if (c == 10 || c == 13) = true then 0 else st.2 + 1))
theorem exptBody_tab (w : Nat) (hw : 0 < w) (out : Array Nat) (col : Nat) (h : out.size + w ≤ 16777216) :
    exptBody (w : Int) 9 (out, col) = pure (ForInStep.yield (out ++ Array.replicate (w - col % w) 32, col + (w - col % w))) := by
  unfold exptBody
  rw [if_pos (by rfl), if_pos (show (w : Int) > 0 by omega), if_neg (by unfold tooLong; rw [sizeLine_eq]; simp only [decide_eq_true_eq, Int.toNat_natCast]; omega)]
  simp only [Int.toNat_natCast]
theorem exptBody_sign (w : Nat) (n : Nat) (hn : n ≠ 9) (out : Array Nat) (col : Nat) :
    exptBody (w : Int) n (out, col) = pure (ForInStep.yield (out.push n, if n = 10 ∨ n = 13 then 0 else col + 1)) := by
  unfold exptBody
  rw [if_neg (by simpa using hn)]
  simp
theorem expt_loop (w : Nat) (hw : 0 < w) : ∀ (l : List Nat) (col : Nat) (out : Array Nat), out.size + l.length * w ≤ 16777216 →
    ∃ col', (forIn l (out, col) (exptBody (w : Int)) : Sem (Array Nat × Nat)) = pure (out ++ (expt w col l).toArray, col')
  | [], col, out, _ => ⟨col, by simp [expt]⟩
  | n :: r, col, out, h => by
    rw [List.forIn_cons]
    rw [List.length_cons, Nat.succ_mul] at h
    have hmod := Nat.mod_lt col hw
    by_cases hn : n = 9
    · subst hn
      rw [exptBody_tab w hw out col (by omega), pure_bind]
      dsimp only
      obtain ⟨col', e⟩ := expt_loop w hw r (col + (w - col % w)) (out ++ Array.replicate (w - col % w) 32) (by simp only [Array.size_append, Array.size_replicate]; omega)
      refine ⟨col', ?_⟩
      rw [e]
      congr 2
      rw [expt, if_pos rfl]
      apply Array.toList_inj.mp
      simp
    · rw [exptBody_sign w n hn, pure_bind]
      dsimp only
      obtain ⟨col', e⟩ := expt_loop w hw r (if n = 10 ∨ n = 13 then 0 else col + 1) (out.push n) (by rw [Array.size_push]; omega)
      refine ⟨col', ?_⟩
      rw [e]
      congr 2
      rw [expt, if_neg hn]
      apply Array.toList_inj.mp
      simp
theorem expt_length (w : Nat) : ∀ (l : List Nat) (col : Nat), 0 < w → (expt w col l).length ≤ l.length * w
  | [], _, _ => by simp [expt]
  | n :: r, col, hw => by
    rw [expt, List.length_cons, Nat.succ_mul]
    split
    · have := expt_length w r (col + (w - col % w)) hw
      rw [List.length_append, List.length_replicate]; omega
    · have := expt_length w r (if n = 10 ∨ n = 13 then 0 else col + 1) hw
      rw [List.length_cons]; omega
theorem gives_expandtabs (l : List Nat) (w : Nat) (t u : Tok) (hw : 0 < w) (hw2 : w < 1000) (hl : l.length * w ≤ 16777216) : Gives (Builtin.«str.expandtabs» ⟨[.str ⟨l.toArray⟩ t, .int w u], []⟩) (if l.contains 9 = true then .str (mkS (expt w 0 l)) else .val (.str ⟨l.toArray⟩ t)) := by
  have e : Builtin.«str.expandtabs» ⟨[.str ⟨l.toArray⟩ t, .int w u], []⟩ = (
    if (decide ((w : Int) < -(2 ^ 31 : Int)) || decide ((w : Int) ≥ 2 ^ 31)) = true then (do
      rule "str.expandtabs.overflow"
      let _r : Unit ← raiseErrorWords "OverflowError" "Python int too large to convert to C int"
      if (!l.toArray.contains 9) = true then (do rule "str.expandtabs.no-tab"; ret (.str ⟨l.toArray⟩ t))
      else do
        let r ← (forIn l.toArray (#[], 0) (exptBody (w : Int)) : Sem (Array Nat × Nat))
        retStr ⟨r.1⟩)
    else if (!l.toArray.contains 9) = true then (do rule "str.expandtabs.no-tab"; ret (.str ⟨l.toArray⟩ t))
    else do
      let r ← (forIn l.toArray (#[], 0) (exptBody (w : Int)) : Sem (Array Nat × Nat))
      retStr ⟨r.1⟩) := rfl
  rw [e, if_neg (by simp; omega)]
  have hc : l.toArray.contains 9 = l.contains 9 := by simp
  rw [hc]
  cases l.contains 9 with
  | false => exact .rule (.of_eq rfl)
  | true =>
    obtain ⟨col', e2⟩ := expt_loop w hw l 0 #[] (by simpa using hl)
    rw [List.forIn_toArray, e2]
    exact .of_eq (by simp [mkS]; rfl)
theorem cnt_eq (n : Nat) : ∀ l : List Nat, cnt n l = ((l.filter (· == n)).length : Nat)
  | [] => rfl
  | a :: r => by
    rw [cnt_cons, cnt_eq n r, List.filter_cons]
    by_cases h : a = n
    · rw [if_pos h, if_pos (by simpa using h)]; simp; omega
    · rw [if_neg h, if_neg (by simpa using h)]; simp
theorem count_nl (l : List Nat) (n : Nat) : Txt.count ⟨l.toArray⟩ ⟨#[n]⟩ = ((l.filter (· == n)).length : Nat) := by
  rw [PyProof.Rows.count_cnt, cnt_eq]
theorem mem_str (l : List Nat) (n : Nat) : (!(occurrences (⟨l.toArray⟩ : Str) ⟨#[n]⟩ 0 (⟨l.toArray⟩ : Str).length 1).isEmpty) = l.contains n := by
  rw [StrLaws.found_one]
  show decide (n ∈ l) = _
  simp
end Mine

end
section
open PySem PySem.W PyProof.Rows
namespace Mine
open PySem PySem.Calls PySem.W PyProof.Rows PySem.Builtin.Str

section
variable {c : Cx} {k : Nat} {ks gl : List Str} {cl : List (Str × Addr)} {X : Fx c k ks gl cl} {F : Fz} {vs vs1 vs' : List (Option PV)} {cs cs1 cs2 cs3 cs4 : Cells} {ts ts' : List (Value × PV)} {s : Shared}
  {N : List (Option PV) → Cells → Prop} {R : PV → Cells → Prop}

theorem few {es : List Expr} {pos : Pos} {env : Env} (hst : (starEach es env).any (·.1) = false) (hlen : es.length < 30) :
    ((backTo pos (starEach es env)).all (fun x => !x.1) && (backToKw pos (keywordEach [] env)).all (fun x => x.1.isSome) && decide (es.length + ([] : List Keyword).length + (if ([] : List Keyword).isEmpty then 0 else 1) < 30)) = true := by
  have h1 : (backTo pos (starEach es env)).all (fun x => !x.1) = true := by
    have := star_none (pos := pos) hst
    rw [List.all_eq_true]; intro x hx
    rw [List.any_eq_false] at this
    simpa using this x hx
  rw [h1]
  simp only [backToKw, keywordEach, List.map_nil, List.all_nil, List.isEmpty_nil, if_true, Bool.true_and, decide_eq_true_eq, List.length_nil, Nat.add_zero]
  exact hlen

/-- a method of a text -/
theorem ev_smeth {o : Expr} {name : Str} {id : String} {apos pos : Pos} {es : List Expr} {l : List Nat} {ps : List PV} {r : PV} (slot : Slot "str" name id) (ty : typeOf (.builtin id) = pure (.type "method_descriptor"))
    (ho : Ev X vs cs o (.str l) cs1) (ha : EvL X vs cs1 pos es ps cs2) (h : BiR X id (.str l :: ps) r)
    (hb : attributeBase o name X.env (eval o X.env) = eval o X.env := by rfl) (hline : (apos.endLine == pos.line) = true := by rfl) (hst : (starEach es X.env).any (·.1) = false := by rfl) (hlen : es.length < 30 := by decide) :
    Ev X vs cs (.Call (.Attribute o name apos) es [] pos) r cs2 := fun ts s i => by
  refine wpAny_Call_method hb (few hst hlen) hline PySem.F.plainAttrs_str slot ty (wm (ho ts s i) fun ov s1 i1 => ?_)
  obtain ⟨t, rfl⟩ := i1.tstr
  refine ⟨typeIs_str _ _ _, (fun _ e => nomatch e), ?_⟩
  refine callWith_builtin (star_none hst) (evalArgs_of (star_none hst) (wm (ha _ s1 i1) fun us s2 ⟨l2, i2⟩ => ?_))
  refine h _ _ _ _ (.str ⟨l.toArray⟩ t :: us) (by simp [l2]) (i2.sub fun t ht => ?_)
  simp only [List.zip_cons_cons, List.cons_append, List.mem_cons, List.mem_append] at ht ⊢
  rcases ht with h | h | h
  · exact .inr (.inl h)
  · exact .inl h
  · exact .inr (.inr h)

theorem Is.strs2 {a b : List Nat} {us : List Value} (l : us.length = [PV.str a, PV.str b].length) (i : InvF X F vs cs (us.zip [PV.str a, PV.str b] ++ ts) s) : ∃ t t', us = [.str ⟨a.toArray⟩ t, .str ⟨b.toArray⟩ t'] ∧ InvF X F vs cs ts s := by
  obtain ⟨u, v, rfl⟩ := args2 l
  obtain ⟨t, rfl⟩ := isStr (i.tmp _ (.head _))
  obtain ⟨t', rfl⟩ := isStr (i.tmp (v, .str b) (.tail _ (.head _)))
  exact ⟨t, t', rfl, i.pop.pop⟩
theorem bi_lstrip {l : List Nat} (h : l.length ≤ 16777216) : BiR X "str.lstrip" [.str l, .str [32, 9]] (.str (lstr l)) := fun vs cs ts s us hl ⟨F, i⟩ => by
  obtain ⟨t, t', rfl, j⟩ := Is.strs2 hl i
  refine SC.lstripChars (fun t' k => ?_) (by rw [slen, sizeLine_eq]; exact h)
  rw [lstrip_eq]; exact j.tok.inv.str
theorem bi_rstrip {l : List Nat} (h : l.length ≤ 16777216) : BiR X "str.rstrip" [.str l, .str [32, 9]] (.str (rstr l)) := fun vs cs ts s us hl ⟨F, i⟩ => by
  obtain ⟨t, t', rfl, j⟩ := Is.strs2 hl i
  refine SC.rstripChars (fun t' k => ?_) (by rw [slen, sizeLine_eq]; exact h)
  rw [rstrip_eq]; exact j.tok.inv.str
theorem bi_strip {l : List Nat} (h : l.length ≤ 16777216) : BiR X "str.strip" [.str l, .str [32, 9]] (.str (strp l)) := fun vs cs ts s us hl ⟨F, i⟩ => by
  obtain ⟨t, t', rfl, j⟩ := Is.strs2 hl i
  refine SC.stripChars (fun t' k => ?_) (by rw [slen, sizeLine_eq]; exact h)
  rw [strip_eq]; exact j.tok.inv.str
theorem bi_count {l : List Nat} {n : Nat} : BiR X "str.count" [.str l, .str [n]] (.int ((l.filter (· == n)).length : Nat)) := fun vs cs ts s us hl ⟨F, i⟩ => by
  obtain ⟨t, t', rfl, j⟩ := Is.strs2 hl i
  refine SC.count ?_
  rw [count_nl]; exact j.tok.inv.int
theorem bi_expandtabs {l : List Nat} {w : Nat} (hw : 0 < w) (hw2 : w < 1000) (h : l.length * w ≤ 16777216) : BiR X "str.expandtabs" [.str l, .int w] (.str (expt w 0 l)) := fun vs cs ts s us hl ⟨F, i⟩ => by
  obtain ⟨u, v, rfl⟩ := args2 hl
  obtain ⟨t, rfl⟩ := isStr (i.tmp _ (.head _))
  obtain ⟨t', rfl⟩ := isInt (i.tmp (v, .int w) (.tail _ (.head _)))
  have j := i.pop.pop
  refine call_gives PySem.F.slot_str_expandtabs (typeIs_str _ _ _) PySem.F.entry_str_expandtabs (PySem.F.args_str_expandtabs_2 _ _) (gives_expandtabs l w t t' hw hw2 h) ?_
  cases hc : l.contains 9 with
  | false =>
    rw [if_neg (by decide)]
    rw [expt_none w 0 l (by simpa using hc)]
    exact j.inv.str
  | true =>
    rw [if_pos rfl]
    exact ⟨by show (mkS _).length ≤ _; unfold mkS; rw [slen, sizeLine_eq]; exact Nat.le_trans (expt_length w l 0 hw) h, j.tok.inv.str⟩

theorem iss_strs {G : Fz} (ls : List (List Nat)) (l : List (Str × Tok)) (h : l.map (·.1) = ls.map mkS) : Iss G (ls.map PV.str) (strValues l) := by
  induction ls generalizing l with
  | nil => simp at h; subst h; exact .nil
  | cons x ls ih =>
    cases l with
    | nil => simp at h
    | cons p l =>
      simp only [List.map_cons, List.cons.injEq] at h
      obtain ⟨a, t⟩ := p
      obtain ⟨h1, h2⟩ := h
      subst h1
      exact .cons .str (ih l h2)
theorem spl_length : ∀ l : List Nat, (spl l).length ≤ l.length + 1
  | [] => by simp [spl]
  | n :: r => by
    have ih := spl_length r
    have h0 := spl_ne r
    unfold spl
    split
    · simp; lia
    · revert ih h0
      cases spl r with
      | nil => intro _ h; exact absurd rfl h
      | cons y ys => intro ih _; simp at ih ⊢; lia
theorem bi_split {l : List Nat} (h : l.length ≤ 1000000) : BiR X "str.split" [.str l, .str [10]] (.list ((spl l).map PV.str)) := fun vs cs ts s us hl ⟨F, i⟩ => by
  obtain ⟨t, t', rfl, j⟩ := Is.strs2 hl i
  have e := split_nl l
  have fin : ∀ (l' : List (Str × Tok)) (tk : Nat), l'.map (·.1) = Txt.split ⟨l.toArray⟩ ⟨#[10]⟩ →
      Inv X vs cs ((.ref s.heap.objs.size, .list ((spl l).map PV.str)) :: ts) { s with heap := s.heap.push (listObj (strValues l').toArray 0), toks := tk } := by
    intro l' tk hl'
    have q := iss_strs (G := F.add s.heap.objs.size (listObj (strValues l').toArray 0)) (spl l) l' (hl'.trans e)
    exact ⟨_, (j.alloc (listObj (strValues l').toArray 0)).tok.push _ _ (.list (n := 0) Fz.add_self (by simpa using q))⟩
  show wpAny _ _ (call (.builtin "str.split") [.str ⟨l.toArray⟩ t, .str ⟨#[10]⟩ t']) _ _ _
  have hsz : (⟨l.toArray⟩ : Str).length ≤ sizeLine := by rw [slen, sizeLine_eq]; lia
  have hy : ((⟨#[10]⟩ : Str).length == 0) = false := rfl
  cases h1 : (decide ((⟨l.toArray⟩ : Str).length < (⟨#[10]⟩ : Str).length) || decide (strKind ⟨l.toArray⟩ < strKind ⟨#[10]⟩)) with
  | true =>
    refine call_meets PySem.F.slot_str_split (typeIs_str _ _ _) PySem.F.entry_str_split (PySem.F.args_str_split_2 _ _) (meets_str_split_cannot_occur ⟨l.toArray⟩ ⟨#[10]⟩ t t' h1) ?_
    exact fin [(⟨l.toArray⟩, t)] s.toks (by unfold Txt.split; rw [if_pos h1]; rfl)
  | false =>
    cases hf : (occurrences (⟨l.toArray⟩ : Str) ⟨#[10]⟩ 0 (⟨l.toArray⟩ : Str).length ((⟨l.toArray⟩ : Str).length + 1)).isEmpty with
    | true =>
      refine call_meets PySem.F.slot_str_split (typeIs_str _ _ _) PySem.F.entry_str_split (PySem.F.args_str_split_2 _ _) (meets_str_split_not_found ⟨l.toArray⟩ ⟨#[10]⟩ t t' h1 hy hf) ?_
      exact fin [(⟨l.toArray⟩, t)] s.toks (by unfold Txt.split; rw [if_neg (by rw [h1]; decide), if_pos hf]; rfl)
    | false =>
      have hp : Txt.split ⟨l.toArray⟩ ⟨#[10]⟩ = partsBetween ⟨l.toArray⟩ (occurrences (⟨l.toArray⟩ : Str) ⟨#[10]⟩ 0 (⟨l.toArray⟩ : Str).length ((⟨l.toArray⟩ : Str).length + 1)) (⟨#[10]⟩ : Str).length := by
        unfold Txt.split; rw [if_neg (by rw [h1]; decide), if_neg (by rw [hf]; decide)]
      refine call_meets PySem.F.slot_str_split (typeIs_str _ _ _) PySem.F.entry_str_split (PySem.F.args_str_split_2 _ _) (meets_str_split_sep ⟨l.toArray⟩ ⟨#[10]⟩ t t' h1 hy hf hsz ?_) ?_
      · rw [← hp, e, List.length_map, sizeLine_eq]
        have := spl_length l
        lia
      · show wants _ _ _ { s with toks := _, heap := s.heap.push { cls := .type "list", data := .seq (strsFrom s.toks (partsBetween _ _ _)).toArray } }
        rw [← hp]
        rw [strsFrom_eq]
        exact fin (numbered s.toks _) _ (numbered_texts _ _)

/-! other operators -/
theorem fold_rep (us : Array α) : ∀ (m : Nat) (acc : Array α), (List.replicate m us).foldl (· ++ ·) acc = acc ++ ((List.replicate m us.toList).flatten).toArray
  | 0, acc => by simp
  | m + 1, acc => by
    rw [List.replicate_succ, List.foldl_cons, fold_rep us m]
    apply Array.toList_inj.mp
    simp [List.replicate_succ, List.append_assoc]
theorem flat_one {α : Type} (a : α) : ∀ m, (List.replicate m [a]).flatten = List.replicate m a
  | 0 => rfl
  | m + 1 => by rw [List.replicate_succ, List.flatten_cons, flat_one a m]; rfl
theorem op_muls {n : Nat} {i : Int} (h : i ≤ 1000000) (h0 : -1000000 ≤ i) : OpR X .Mult (.str [n]) (.int i) (.str (List.replicate i.toNat n)) := fun vs cs ts s u v x => by
  obtain ⟨F, x⟩ := x
  obtain ⟨t, rfl⟩ := isStr (x.tmp _ (.tail _ (.head _)))
  obtain ⟨t', rfl⟩ := isInt (x.tmp _ (.head _))
  have len1 : (⟨[n].toArray⟩ : Str).length = 1 := rfl
  refine SB.mul ⟨by simp; lia, fun h1 h2 => ?_, fun h1 h2 => ?_⟩ fun t' k => ?_
  · rw [len1]
    have : (1 : Int) ≤ (2 ^ 63 - 1) / i := by
      rw [Int.le_ediv_iff_mul_le (by lia)]; lia
    lia
  · rw [len1]
    unfold tooLong
    rw [sizeLine_eq]
    simp
    lia
  · have : Txt.mul ⟨[n].toArray⟩ i = mkS (List.replicate i.toNat n) := by
      unfold Txt.mul
      split
      · have : i.toNat = 0 := by lia
        rw [this]; rfl
      · split
        · rename_i h1 h2
          rw [len1] at h2
          have : i = 1 := by simpa using h2
          subst this; rfl
        · apply Str.ext'
          show (List.replicate i.toNat [n].toArray).foldl (· ++ ·) #[] = _
          rw [fold_rep]
          apply Array.toList_inj.mp
          simp [mkS, flat_one]
    rw [this]; exact x.pop2.tok.inv.str
theorem intsAre_of {ns : List Int} : ∀ {us : List Value}, Iss F (ns.map PV.int) us → IntsAre us ns := by
  induction ns with
  | nil => intro us h; cases h; exact .nil
  | cons n ns ih =>
    intro us h
    rw [List.map_cons] at h
    cases h with
    | cons h r => obtain ⟨t, rfl⟩ := isInt h; exact .cons n t (ih r)
theorem cp_in_tup {i : Int} {ns : List Int} : CpR X .In (.int i) (.tup (ns.map PV.int)) (ns.any (· == i)) := fun vs cs ts s u v ⟨F, x⟩ => by
  obtain ⟨t, rfl⟩ := isInt (x.tmp _ (.tail _ (.head _)))
  obtain ⟨a, us, n, rfl, e, hi⟩ := isTup (x.tmp _ (.head _))
  exact in_tuple_ints ⟨_, x.on _ _ e, rfl, n, rfl⟩ (intsAre_of hi) ⟨rfl, x.inv⟩
theorem cp_notin_tup {i : Int} {ns : List Int} : CpR X .NotIn (.int i) (.tup (ns.map PV.int)) (!ns.any (· == i)) := fun vs cs ts s u v ⟨F, x⟩ => by
  obtain ⟨t, rfl⟩ := isInt (x.tmp _ (.tail _ (.head _)))
  obtain ⟨a, us, n, rfl, e, hi⟩ := isTup (x.tmp _ (.head _))
  exact notin_tuple_ints ⟨_, x.on _ _ e, rfl, n, rfl⟩ (intsAre_of hi) ⟨rfl, x.inv⟩
theorem cp_in_str {l : List Nat} {n : Nat} : CpR X .In (.str [n]) (.str l) (l.contains n) := fun vs cs ts s u v ⟨F, x⟩ => by
  obtain ⟨t, rfl⟩ := isStr (x.tmp _ (.tail _ (.head _)))
  obtain ⟨t', rfl⟩ := isStr (x.tmp _ (.head _))
  exact in_str ⟨by rw [mem_str], x.inv⟩
theorem cp_notin_str {l : List Nat} {n : Nat} : CpR X .NotIn (.str [n]) (.str l) (!l.contains n) := fun vs cs ts s u v ⟨F, x⟩ => by
  obtain ⟨t, rfl⟩ := isStr (x.tmp _ (.tail _ (.head _)))
  obtain ⟨t', rfl⟩ := isStr (x.tmp _ (.head _))
  exact notIn_str ⟨by rw [mem_str], x.inv⟩
theorem op_addl {a b : List PV} (h : a.length + b.length ≤ 1000000) : OpR X .Add (.list a) (.list b) (.list (a ++ b)) := fun vs cs ts s u v ⟨F, x⟩ => by
  obtain ⟨p, us, n, rfl, e, hi⟩ := isList (x.tmp _ (.tail _ (.head _)))
  obtain ⟨q, us', n', rfl, e', hi'⟩ := isList (x.tmp _ (.head _))
  have j := x.pop2
  obtain ⟨m, news, Fh, Nw, k1, k2⟩ := j.viaN
  refine add_arrays Fh Nw (IsList_of (x.on _ _ e)) (IsList_of (x.on _ _ e')) (fun h' F' N' => ?_) (by rw [hi.size, hi'.size, sizeLine_eq]; lia)
  have y := k2 h' s.toks _ _ F' N' (Nat.le_refl _)
  have q := (hi.append hi').mono (Fz.le_add (o := listObj (us.toList ++ us'.toList).toArray 0) (x.new (Nat.le_refl _)))
  exact ⟨_, y.push _ _ (.list (n := 0) Fz.add_self (by simpa using q))⟩
theorem op_mull {a : List PV} {i : Int} (h0 : -1000000 ≤ i) (h : a.length * i.toNat ≤ 1000000) (h2 : i ≤ 1000000) : OpR X .Mult (.list a) (.int i) (.list (List.replicate i.toNat a).flatten) := fun vs cs ts s u v ⟨F, x⟩ => by
  obtain ⟨p, us, n, rfl, e, hi⟩ := isList (x.tmp _ (.tail _ (.head _)))
  obtain ⟨t', rfl⟩ := isInt (x.tmp _ (.head _))
  have j := x.pop2
  obtain ⟨m, news, Fh, Nw, k1, k2⟩ := j.viaN
  refine mul_list Fh Nw (x.on _ _ e) (by lia) (by lia) (by rw [hi.size]; lia) (fun h' F' N' => ?_)
  have y := k2 h' s.toks _ _ F' N' (Nat.le_refl _)
  have e2 : (List.replicate (if us.isEmpty = true then 0 else i.toNat) us).foldl (fun x1 x2 => x1 ++ x2) #[] = ((List.replicate i.toNat us.toList).flatten).toArray := by
    rw [fold_rep]
    by_cases he : us.isEmpty = true
    · rw [if_pos he]
      have : us = #[] := by simpa using he
      subst this
      simp
    · rw [if_neg he]; simp
  have q : Iss F (List.replicate i.toNat a).flatten (List.replicate i.toNat us.toList).flatten := by
    generalize i.toNat = n
    induction n with
    | zero => exact .nil
    | succ n ih => rw [List.replicate_succ, List.replicate_succ, List.flatten_cons, List.flatten_cons]; exact hi.append ih
  have q2 := q.mono (Fz.le_add (o := listObj ((List.replicate i.toNat us.toList).flatten).toArray 0) (x.new (Nat.le_refl _)))
  rw [e2] at y
  exact ⟨_, y.push _ _ (.list (n := 0) Fz.add_self (by simpa using q2))⟩
end
end Mine

end
section
open PySem PySem.W PyProof.Rows
namespace Mine
open PySem PySem.Calls PySem.W PyProof.Rows PySem.Builtin.Str

section
variable {c : Cx} {k : Nat} {ks gl : List Str} {cl : List (Str × Addr)} {X : Fx c k ks gl cl} {F : Fz} {vs vs1 vs2 vs' : List (Option PV)} {cs cs1 cs2 cs3 cs4 : Cells} {ts ts' : List (Value × PV)} {s : Shared}
  {N : List (Option PV) → Cells → Prop} {R : PV → Cells → Prop}

theorem InvF.setCellL (x : InvF X F vs cs ts s) {a : Addr} {u y : CV} (hs : CsSet cs a u y cs1) {m : Str → Option Value} (hm : ∀ x p, GetAt ks vs x p → ∃ v, m x = some v ∧ Is F p v) {h : Heap} {t : Nat} (hn : h.Ns X.env.locals m)
    (kp : ∀ b o, b ≠ a → b ≠ X.env.locals → s.heap.get? b = some o → h.get? b = some o) (hy : CellAt F h (a, y)) : InvF X F vs cs1 ts { s with heap := h, toks := t } := by
  obtain ⟨c1, c2, c3, c4⟩ := x.cell _ hs.mem
  have c2' : F a = none := c2
  refine ⟨?_, fun b o e => ?_, x.le, x.fresh, fun b o e n => ?_, fun b hb => ?_, ⟨m, hn, hm⟩, x.nL, fun z hz => ?_, hs.fst ▸ x.nd, x.tmp⟩
  · obtain ⟨h0, t0, e⟩ := x.st; exact ⟨h, t, by rw [e]⟩
  · exact kp b o (fun q => by rw [q, c2'] at e; cases e) (fun q => by rw [q, x.nL.1] at e; cases e) (x.on b o e)
  · refine kp b o (fun q => ?_) (fun q => absurd (Nat.lt_of_lt_of_le (Heap.lt_size e) X.above) (by rw [q]; exact Nat.lt_irrefl _)) (x.keep b o e n)
    subst q
    rcases c4 with h4 | h4
    · exact n h4
    · rw [h4] at e; cases e
  · obtain ⟨h1, o', h2⟩ := x.wr b hb
    refine ⟨h1, ?_⟩
    by_cases q : b = a
    · subst q; exact hy.some
    · exact ⟨o', kp b o' q (fun q => x.nL.2 (q ▸ hb)) h2⟩
  · rcases hs.get x.nd hz with rfl | ⟨h1, h2⟩
    · exact ⟨hy, c2, c3, c4⟩
    · obtain ⟨d1, d2, d3, d4⟩ := x.cell z h1
      exact ⟨d1.mono (Fz.le_refl _) fun o e => kp _ o h2 d3 e, d2, d3, d4⟩
theorem InvF.viaC (x : InvF X F vs cs ts s) {a : Addr} {u y : CV} (hs : CsSet cs a u y cs1) {o : Obj} (ho : s.heap.get? a = some o) : ∃ m news, Fr h00 X.env.locals s.heap m ∧ News h00 X.env.locals s.heap ((a, o) :: news) ∧ (∀ p ∈ news, p.1 ≠ a) ∧
    (∀ h' tk o', Fr h00 X.env.locals h' m → News h00 X.env.locals h' ((a, o') :: news) → CellAt F h' (a, y) → InvF X F vs cs1 ts { s with heap := h', toks := tk }) := by
  obtain ⟨m, hn, hm⟩ := x.loc
  obtain ⟨c1, c2, c3, c4⟩ := x.cell _ hs.mem
  refine ⟨m, (allBut s.heap X.env.locals).filter fun p => decide (p.1 ≠ a), ⟨hn, (fun b o e => by rw [h00_get] at e; cases e), Nat.zero_le _⟩, fun p hp => ?_, fun p hp => ?_, fun h' tk o' Fh N hy => ?_⟩
  · rcases List.mem_cons.mp hp with rfl | hp
    · exact ⟨ho, c3, h00_get _⟩
    · obtain ⟨b, ob⟩ := p
      have := mem_allBut.mp (List.mem_filter.mp hp).1
      exact ⟨this.2, this.1, h00_get _⟩
  · simpa using (List.mem_filter.mp hp).2
  · exact x.setCellL hs hm Fh.ns (fun b ob q1 q2 e => (N (b, ob) (.tail _ (List.mem_filter.mpr ⟨mem_allBut.mpr ⟨q2, e⟩, by simpa using q1⟩))).1) hy

/-- a new own object -/
theorem InvF.newCell (x : InvF X F vs cs ts s) (o : Obj) (cv : CV) (hc : CellAt F (s.heap.push o) (s.heap.objs.size, cv)) : InvF X F vs ((s.heap.objs.size, cv) :: cs) ts { s with heap := s.heap.push o } := by
  have y := x.keeps (t := s.toks) (Keep.push s.heap o)
  refine ⟨y.st, y.on, y.le, y.fresh, y.keep, y.wr, y.loc, y.nL, fun z hz => ?_, ?_, y.tmp⟩
  · rcases List.mem_cons.mp hz with rfl | hz
    · refine ⟨hc, x.new (Nat.le_refl _), fun q => ?_, .inr (Heap.get?_none_of_le (Nat.le_of_lt x.big))⟩
      obtain ⟨m, hn, _⟩ := x.loc
      exact absurd hn.lt (by rw [← q]; exact Nat.lt_irrefl _)
    · exact y.cell z hz
  · rw [List.map_cons, List.nodup_cons]
    refine ⟨fun hm => ?_, x.nd⟩
    obtain ⟨z, hz, e⟩ := List.mem_map.mp hm
    obtain ⟨o', ho'⟩ := (x.cell z hz).1.some
    have := Heap.lt_size ho'
    rw [e] at this
    exact absurd this (Nat.lt_irrefl _)
/-- an own object is let go -/
theorem Inv.dropCell {z : Addr × CV} (x : Inv X vs (z :: cs) ts s) : Inv X vs cs ts s := by
  obtain ⟨F, x⟩ := x
  exact ⟨F, ⟨x.st, x.on, x.le, x.fresh, x.keep, x.wr, x.loc, x.nL, fun z hz => x.cell z (.tail _ hz), (List.nodup_cons.mp x.nd).2, x.tmp⟩⟩

theorem ex_new_list {vs' : Addr → List (Option PV)} {x : Str} {p' pos lpos : Pos} {rest : List Stmt} (g : ∀ a, SetAt ks vs x (.raw (.ref a)) (vs' a)) (r : ∀ a, Ex X (vs' a) ((a, .lst []) :: cs) rest N R) : Ex X vs cs (.Assign [.Name x p'] (.List [] lpos) pos :: rest) N R :=
  ex_cons fun ts s i => wpAny_Assign_Name (List_ (spliced_nil (wpAny_newObj_type (by
    obtain ⟨F, i⟩ := i
    have j := i.newCell (listObj #[] 0) (.lst []) ⟨#[], ⟨0, Heap.get?_push_size _ rfl⟩, .nil⟩
    exact wm (st_local (g _) (⟨F, j.push (.raw (.ref s.heap.objs.size)) (.ref s.heap.objs.size) .raw⟩ : Inv X vs _ _ _)) fun _ s2 i2 => ⟨_, _, i2, r _⟩) (by show (0 : Nat) ≤ _; lia)))) rfl

/-- a method of an own list -/
theorem ev_lmeth {o : Expr} {name : Str} {id : String} {apos pos : Pos} {es : List Expr} {l : List PV} {a : Addr} {ps : List PV} {r : PV} {y : CV} (slot : Slot "list" name id) (ty : typeOf (.builtin id) = pure (.type "method_descriptor"))
    (ho : Ev X vs cs o (.raw (.ref a)) cs1) (hc : (a, CV.lst l) ∈ cs1) (ha : EvL X vs cs1 pos es ps cs2) (hs : CsSet cs2 a (.lst l) y cs3)
    (h : ∀ ts s F us, us.length = ps.length → InvF X F vs cs2 (us.zip ps ++ ts) s → wpAny (model c.prog c.w) X.A (call (.builtin id) (.ref a :: us) []) (fun v s' => Inv X vs cs3 ((v, r) :: ts) s') (fun _ _ => False) s)
    (hb : attributeBase o name X.env (eval o X.env) = eval o X.env := by rfl) (hline : (apos.endLine == pos.line) = true := by rfl) (hst : (starEach es X.env).any (·.1) = false := by rfl) (hlen : es.length < 30 := by decide) :
    Ev X vs cs (.Call (.Attribute o name apos) es [] pos) r cs3 := fun ts s i => by
  refine wpAny_Call_method hb (few hst hlen) hline PySem.F.plainAttrs_list slot ty (wm (ho ts s i) fun ov s1 i1 => ?_)
  have := i1.traw; subst this
  obtain ⟨F, i1⟩ := i1
  obtain ⟨us, ⟨n, hl⟩, hi⟩ := (i1.cell _ hc).1
  refine ⟨⟨_, hl, rfl⟩, (fun b e => by cases e; exact ⟨_, hl, rfl⟩), ?_⟩
  exact callWith_builtin (star_none hst) (evalArgs_of (star_none hst) (wm (ha _ s1 i1.pop.inv) fun us s2 ⟨l2, ⟨G, i2⟩⟩ => h ts s2 G us l2 i2))
theorem ev_append {o e : Expr} {apos pos : Pos} {l : List PV} {a : Addr} {p : PV} (ho : Ev X vs cs o (.raw (.ref a)) cs1) (hc : (a, CV.lst l) ∈ cs1) (he : Ev X vs cs1 e p cs2) (hs : CsSet cs2 a (.lst l) (.lst (l ++ [p])) cs3) (hsz : l.length ≤ 1000000)
    (hb : attributeBase o (Mine.ks "append") X.env (eval o X.env) = eval o X.env := by rfl) (hline : (apos.endLine == pos.line) = true := by rfl) (hst : starEach [e] X.env = [(false, eval e X.env)] := by rfl) :
    Ev X vs cs (.Call (.Attribute o (Mine.ks "append") apos) [e] [] pos) .none cs3 := by
  refine ev_lmeth (r := .none) slot_list_append PySem.F.type_list_append ho hc (el_cons he el_nil hst) hs (fun ts s F us hl i => ?_) hb hline (by rw [hst]; rfl) (by show 1 < 30; decide)
  obtain ⟨u, rfl⟩ := args1 hl
  obtain ⟨xs, hL, hi⟩ := (i.cell _ hs.mem).1
  obtain ⟨m, news, Fh, Nw, hne, k1⟩ := i.pop.viaC hs (o := listObj xs hL.choose) hL.choose_spec
  refine wpAny_list_append_plain hL (fun h' hL' sb => ?_) (by rw [hi.size, sizeLine_eq]; lia)
  obtain ⟨n', hn'⟩ := hL'
  refine ⟨F, (i.pop.setCell hs (Fz.le_refl _) (fun b ob e => sb.extBut b ob (fun q => ?_) (i.on b ob e)) (fun _ _ _ n => n) (fun b ob hb e => sb.extBut b ob hb e) ⟨xs.push u, ⟨n', hn'⟩, ?_⟩).push _ _ .none⟩
  · have := (i.cell _ hs.mem).2.1
    rw [q] at e; rw [this] at e; cases e
  · rw [Array.toList_push]
    exact hi.append (.cons (i.tmp _ (.head _)) .nil)
/-- d.pop(0) -/
theorem ev_pop0 {o e : Expr} {apos pos : Pos} {l : List PV} {a : Addr} {p : PV} (ho : Ev X vs cs o (.raw (.ref a)) cs1) (hc : (a, CV.lst (p :: l)) ∈ cs1) (he : Ev X vs cs1 e (.int 0) cs2) (hs : CsSet cs2 a (.lst (p :: l)) (.lst l) cs3) (hsz : l.length ≤ 1000000)
    (hb : attributeBase o (Mine.ks "pop") X.env (eval o X.env) = eval o X.env := by rfl) (hline : (apos.endLine == pos.line) = true := by rfl) (hst : starEach [e] X.env = [(false, eval e X.env)] := by rfl) :
    Ev X vs cs (.Call (.Attribute o (Mine.ks "pop") apos) [e] [] pos) p cs3 := by
  refine ev_lmeth (r := p) PySem.F.slot_list_pop PySem.F.type_list_pop ho hc (el_cons he el_nil hst) hs (fun ts s F us hl i => ?_) hb hline (by rw [hst]; rfl) (by show 1 < 30; decide)
  obtain ⟨u, rfl⟩ := args1 hl
  obtain ⟨t, rfl⟩ := isInt (i.tmp _ (.head _))
  obtain ⟨xs, ⟨n, hL⟩, hi⟩ := (i.cell _ hs.mem).1
  have hne := (i.cell _ hs.mem).2.1
  have hz := hi.size
  obtain ⟨y, ys, rfl⟩ : ∃ y ys, xs = (y :: ys).toArray := by
    obtain ⟨xs⟩ := xs
    cases xs with
    | nil => simp at hz
    | cons y ys => exact ⟨y, ys, rfl⟩
  have hi' : Iss F (p :: l) (y :: ys) := hi
  cases hi' with
  | cons hy hr =>
  refine call_meets PySem.F.slot_list_pop ⟨_, hL, rfl⟩ PySem.F.entry_list_pop (PySem.F.args_list_pop_2 _ _) (PySem.MeetsSeq.list_pop_at a _ n 0 t 0 y rfl (by
    unfold seqIndex?; simp) (by simp) (by rw [hz, sizeLine_eq]; simp; lia)) ⟨hL, ?_⟩
  have sb := Heap.SameBut.update s.heap a (Obj.mapSeq fun xs => xs.eraseIdxIfInBounds 0)
  have e1 : ((y :: ys).toArray).eraseIdxIfInBounds 0 = ys.toArray := by
    apply Array.toList_inj.mp; simp
  have hL' : (s.heap.update a (Obj.mapSeq fun xs => xs.eraseIdxIfInBounds 0)).get? a = some (listObj ys.toArray (n + 1)) := by
    have q : Obj.mapSeq (fun xs => xs.eraseIdxIfInBounds 0) (listObj (y :: ys).toArray n) = listObj ys.toArray (n + 1) := by
      unfold Obj.mapSeq listObj
      dsimp only
      rw [e1]
      simp
    rw [Heap.get?_update_self _ hL (by rw [q]; rfl), q]
  refine ⟨F, ((i.pop.setCell (t := s.toks) hs (Fz.le_refl _) (fun b ob e => sb.extBut b ob (fun q => ?_) (i.on b ob e)) (fun _ _ _ n => n) (fun b ob hb e => sb.extBut b ob hb e) ⟨ys.toArray, ⟨_, hL'⟩, by simpa using hr⟩)).push _ _ hy⟩
  rw [q] at e; rw [hne] at e; cases e
theorem ex_expr_int {e : Expr} {i : Int} {pos : Pos} {rest : List Stmt} (h : Ev X vs cs e (.int i) cs1) (r : Ex X vs cs1 rest N R) (hs : swapsWith e none pos.line X.env = pure false := by rfl) : Ex X vs cs (.Expr e pos :: rest) N R :=
  ex_cons fun ts s j => wpAny_Expr (wm (h ts s j) fun v s1 i1 => by
    obtain ⟨t, rfl⟩ := i1.tint
    exact ⟨vs, cs1, i1.pop, r⟩) (by unfold interactive; rw [X.kind]; rfl) hs
/-- an item of an own list -/
theorem ev_item_cell {value slice : Expr} {pos : Pos} {ps : List PV} {a : Addr} {i : Int} {p : PV} (hv : Ev X vs cs value (.raw (.ref a)) cs1) (hi : Ev X vs cs1 slice (.int i) cs2) (hc : (a, CV.lst ps) ∈ cs2) (h0 : 0 ≤ i) (hl : i < 16777216) (hp : ps[i.toNat]? = some p)
    (hs : ∀ o i, subscripted slice false o i = operate [o, i] (getItem o i) := by intro _ _; with_unfolding_all rfl) : Ev X vs cs (.Subscript value slice pos) p cs2 :=
  ev_sub hv hi (fun ts s F u v x => by
    have := (x.tmp _ (.tail _ (.head _))).traw; subst this
    obtain ⟨t, rfl⟩ := isInt (x.tmp _ (.head _))
    obtain ⟨us, hL, his⟩ := (x.cell _ hc).1
    obtain ⟨y, hy, hiy⟩ := his.get _ _ hp
    exact ⟨_, _, slot_list_getitem.lookup, hL.isList.typeIs, wpAny_getItem_list hL.isList h0 (by lia) (by simpa using hy) (x.pop2.push _ _ hiy).inv⟩) hs
theorem ev_len_cell {fe e : Expr} {pos : Pos} {ps : List PV} {a : Addr} (hf : Ev X vs cs fe (.raw (.builtin "len")) cs) (he : Ev X vs cs e (.raw (.ref a)) cs1) (hc : (a, CV.lst ps) ∈ cs1) (hl : ps.length < 16777216)
    (hst : starEach [e] X.env = [(false, eval e X.env)] := by rfl)
    (hev : eval (.Call fe [e] [] pos) X.env = (do callWith pos (← eval fe X.env) [] (backTo pos (starEach [e] X.env)) (backToKw pos (keywordEach [] X.env))) := by rfl) : Ev X vs cs (.Call fe [e] [] pos) (.int ps.length) cs1 := fun ts s i => by
  rw [hev]
  refine wpAny_bind (wm (hf ts s i) fun v s1 i1 => ?_)
  have := i1.traw; subst this
  have hst' : (starEach [e] X.env).any (·.1) = false := by rw [hst]; rfl
  refine callWith_builtin (star_none hst') (evalArgs_of (star_none hst') (wm (el_cons he el_nil hst ts s1 i1.pop) fun us s2 ⟨l, i2⟩ => ?_))
  obtain ⟨u, rfl⟩ := args1 l
  have : u = .ref a := by obtain ⟨F, i2⟩ := i2; exact (i2.tmp _ (.head _)).traw
  subst this
  exact bi_len_cell hl hc i2.pop
/-- d[0] = i -/
theorem ex_set_item {o ix e : Expr} {p' pos : Pos} {ns : List Int} {a : Addr} {i j : Int} {rest : List Stmt} (he : Ev X vs cs e (.int j) cs1) (ho : Ev X vs cs1 o (.raw (.ref a)) cs1) (hi : Ev X vs cs1 ix (.int i) cs1) (h0 : 0 ≤ i) (h1 : i < ns.length) (hl : ns.length ≤ 1000000)
    (hs : CsSet cs1 a (.lst (ns.map PV.int)) (.lst ((ns.set i.toNat j).map PV.int)) cs2) (r : Ex X vs cs2 rest N R) (hw : swapsWith e (some (.Subscript o ix p')) pos.line X.env = pure false := by rfl) : Ex X vs cs (.Assign [.Subscript o ix p'] e pos :: rest) N R :=
  ex_cons fun ts s x => wpAny_Assign_Subscript (wm (he ts s x) fun v s1 i1 => wm (ho _ s1 i1) fun u s2 i2 => wm (hi _ s2 i2) fun w s3 i3 => by
    obtain ⟨t3, rfl⟩ := i3.tint
    have := i3.pop.traw; subst this
    obtain ⟨t1, rfl⟩ := i3.pop2.tint
    obtain ⟨G, i3⟩ := i3
    obtain ⟨us, ⟨n, hL⟩, hii⟩ := (i3.cell _ hs.mem).1
    have hz := hii.size
    have e1 : us = us.toList.toArray := by simp
    rw [e1] at hL
    obtain ⟨m, news, Fh, Nw, hne, k1⟩ := i3.viaC hs hL
    have hia := intsAre_of hii
    refine ksa_set (vs := us.toList) (n := n) Fh Nw (Upd.head fun p hp => hne p hp) hia h0 h1 (by lia) (fun h' F' N' hi' _ _ => ?_)
    refine ⟨vs, cs2, ⟨G, (k1 h' s3.toks _ F' N' ⟨_, ⟨n, (N' _ (.head _)).1⟩, ?_⟩).sub fun _ h => .tail _ (.tail _ (.tail _ h))⟩, r⟩
    have of : ∀ {ns : List Int} {us : List Value}, IntsAre us ns → Iss G (ns.map PV.int) us := by
      intro ns us h
      induction h with
      | nil => exact .nil
      | cons n t _ ih => exact .cons .int ih
    simpa using of hi') hw
end
end Mine

end
section
open PySem PySem.W PyProof.Rows
namespace Mine
open PySem PySem.Calls PySem.W PyProof.Rows PySem.Builtin.Str

section
variable {c : Cx} {k : Nat} {ks gl : List Str} {cl : List (Str × Addr)} {X : Fx c k ks gl cl} {F : Fz} {vs vs1 vs2 vs' : List (Option PV)} {cs cs1 cs2 cs3 cs4 : Cells} {ts ts' : List (Value × PV)} {s : Shared}
  {N : List (Option PV) → Cells → Prop} {R : PV → Cells → Prop}

/-- storing one value under one target -/
inductive StV (X : Fx c k ks gl cl) (vs : List (Option PV)) (cs : Cells) : Str → PV → List (Option PV) → Cells → Prop
  | loc {x : Str} {p : PV} {vs' : List (Option PV)} : SetAt ks vs x p vs' → StV X vs cs x p vs' cs
  | cell {x : Str} {p : PV} {a : Addr} {o : Option PV} {cs' : Cells} : (x, a) ∈ cl → X.env.kindOf x = some .cell → CsSet cs a (.var o) (.var (some p)) cs' → StV X vs cs x p vs cs'
theorem st_any {x : Str} {p : PV} {v : Value} (g : StV X vs cs x p vs' cs1) {A : Around} {E : Value → Shared → Prop} (i : Inv X vs cs ts s) (hm : (v, p) ∈ ts) : wpAny (model c.prog c.w) A (storeName X.env x v) (fun _ s' => Inv X vs' cs1 ts s') E s := by
  obtain ⟨F, i⟩ := i
  cases g with
  | loc g =>
    obtain ⟨m, hn, hmm⟩ := i.loc
    exact wpAny_storeName_local (X.loc x g.mem) hn (fun h' hn' sb => ⟨F, i.setLocal g (i.tmp _ hm) hmm hn' sb⟩) (by rw [X.kind]; rfl)
  | cell hx hk hs =>
    rename_i a o
    have hc := (i.cell _ hs.mem).1
    have hv : ∃ v₀, s.heap.IsCell a v₀ := by
      cases o with
      | none => exact ⟨_, hc⟩
      | some q => obtain ⟨v', h', _⟩ := hc; exact ⟨_, h'⟩
    obtain ⟨v₀, hv⟩ := hv
    refine wpAny_storeName_cell X.kind hk (X.cls _ hx).2 hv fun h' hc' sb => ?_
    refine ⟨F, i.setCell hs (Fz.le_refl _) (fun b ob e => sb.extBut b ob (fun q => ?_) (i.on b ob e)) (fun _ _ _ n => n) (fun b ob hb e => sb.extBut b ob hb e) ⟨v, hc', i.tmp _ hm⟩⟩
    have := (i.cell _ hs.mem).2.1
    rw [q] at e; rw [this] at e; cases e
/-- several targets in order -/
inductive StVs (X : Fx c k ks gl cl) : List (Option PV) → Cells → List Expr → List PV → List (Option PV) → Cells → Prop
  | nil {vs : List (Option PV)} {cs : Cells} : StVs X vs cs [] [] vs cs
  | cons {vs vs1 vs2 : List (Option PV)} {cs cs1 cs2 : Cells} {x : Str} {pos : Pos} {p : PV} {ts : List Expr} {ps : List PV} : StV X vs cs x p vs1 cs1 → StVs X vs1 cs1 ts ps vs2 cs2 → StVs X vs cs (.Name x pos :: ts) (p :: ps) vs2 cs2
theorem stvs_run {tg : List Expr} {ps : List PV} (g : StVs X vs cs tg ps vs' cs1) : ∀ {us : List Value} {ts : List (Value × PV)} {s : Shared} {A : Around} {E : Value → Shared → Prop}, us.length = ps.length → (∀ t ∈ us.zip ps, t ∈ ts) → Inv X vs cs ts s →
    wpAny (model c.prog c.w) A (assignInOrder ((assignEach tg X.env).map (·.2)) us) (fun _ s' => Inv X vs' cs1 ts s') E s := by
  induction g with
  | nil =>
    intro us ts s A E l hm i
    have : us = [] := by simpa using l
    subst this
    exact wpAny_pure i
  | cons h _ ih =>
    intro us ts s A E l hm i
    rename_i x pos p tg ps _
    cases us with
    | nil => simp at l
    | cons u us =>
      show wpAny _ _ (holding us (assign (.Name x pos) X.env u) >>= fun _ => assignInOrder ((assignEach tg X.env).map (·.2)) us) _ _ _
      refine wpAny_bind (wpAny_holding (wpAny_assign_Name (wm (st_any h i (hm _ (.head _))) fun _ s1 i1 => ?_)))
      exact ih (by simpa using l) (fun t ht => hm t (.tail _ ht)) i1
theorem stvs_each {tg : List Expr} {ps : List PV} (g : StVs X vs cs tg ps vs' cs1) : (assignEach tg X.env).length = ps.length ∧ (assignEach tg X.env).findIdx? (fun x => x.1) = none := by
  induction g with
  | nil => exact ⟨rfl, rfl⟩
  | cons h _ ih =>
    rename_i x pos p tg ps _
    have e : assignEach (.Name x pos :: tg) X.env = (false, assign (.Name x pos) X.env) :: assignEach tg X.env := rfl
    rw [e]
    refine ⟨by simp [ih.1], ?_⟩
    rw [List.findIdx?_cons]
    simp [ih.2]
theorem iss2 {F : Fz} {p q : PV} {us : List Value} (h : Iss F [p, q] us) : ∃ u1 u2, us = [u1, u2] ∧ Is F p u1 ∧ Is F q u2 := by
  cases h with
  | cons hp hr => cases hr with
    | cons hq hr => cases hr with
      | nil => exact ⟨_, _, rfl, hp, hq⟩
theorem iss_mem {F : Fz} : ∀ {qs : List PV} {ws : List Value} {t : Value × PV}, Iss F qs ws → t ∈ ws.zip qs → Is F t.2 t.1
  | _, _, _, .nil, h => by simp at h
  | _, _, _, .cons h r, ht => by
    rw [List.zip_cons_cons] at ht
    rcases List.mem_cons.mp ht with rfl | ht
    · exact h
    · exact iss_mem r ht
theorem assign_tuple {tg : List Expr} {kk : Nat} {pos : Pos} {ps : List PV} {v : Value} (g : StVs X vs cs tg ps vs' cs1) {A : Around} {E : Value → Shared → Prop} (hA : A.handled = none) (i : Inv X vs cs ((v, .tup ps) :: ts) s) :
    wpAny (model c.prog c.w) A (assign (.Tuple tg kk pos) X.env v) (fun _ s' => Inv X vs' cs1 ts s') E s := by
  obtain ⟨F, i⟩ := i
  obtain ⟨a, us, n, rfl, e, hi⟩ := isTup (i.tmp _ (.head _))
  obtain ⟨h1, h2⟩ := stvs_each g
  refine wpAny_assign_Tuple hA ⟨_, i.on _ _ e, rfl, n, rfl⟩ (by rw [h1, hi.size]) h2 fun h' ext => ?_
  have kp : Keep s.heap h' := fun b o e => ext b o (Nat.ne_of_lt (Heap.lt_size e)) e
  have j := (i.keeps (t := s.toks) kp)
  have hl : us.toList.length = ps.length := by rw [hi.length]
  have push : ∀ (qs : List PV) (ws : List Value) {ts : List (Value × PV)}, Iss F qs ws → InvF X F vs cs ts { s with heap := h', toks := s.toks } → InvF X F vs cs (ws.zip qs ++ ts) { s with heap := h', toks := s.toks } := by
    intro qs ws ts hq x
    refine ⟨x.st, x.on, x.le, x.fresh, x.keep, x.wr, x.loc, x.nL, x.cell, x.nd, fun t ht => ?_⟩
    rcases List.mem_append.mp ht with ht | ht
    · exact iss_mem hq ht
    · exact x.tmp t ht
  exact wm (stvs_run g (us := us.toList) hl (fun t ht => List.mem_append_left _ ht) ⟨F, push ps us.toList hi j.pop⟩) fun _ s' i' => i'.popN
/-- a, b = tuple -/
theorem ex_unpack {tg : List Expr} {kk : Nat} {tpos pos : Pos} {e : Expr} {ps : List PV} {rest : List Stmt} (he : Ev X vs cs e (.tup ps) cs1) (g : StVs X vs cs1 tg ps vs' cs2) (r : Ex X vs' cs2 rest N R)
    (h1 : swapsWithSole [.Tuple tg kk tpos] e pos.line X.env = pure false := by rfl) (h2 : swappedStores [.Tuple tg kk tpos] e X.env = pure none := by rfl) : Ex X vs cs (.Assign [.Tuple tg kk tpos] e pos :: rest) N R :=
  ex_cons fun ts s i => Assign_Tuple (wm (he ts s i) fun v s1 i1 => wm (assign_tuple g X.rm.hd i1) fun _ s2 i2 => ⟨vs', cs2, i2, r⟩) h1 h2
/-- two locals turned at once -/
theorem ex_unpack2 {x y : Str} {p1 p2 tpos pos : Pos} {kk : Nat} {e : Expr} {p q : PV} {rest : List Stmt} (he : Ev X vs cs e (.tup [p, q]) cs1) (g1 : SetAt ks vs y q vs1) (g2 : SetAt ks vs1 x p vs2) (r : Ex X vs2 cs1 rest N R)
    (h1 : swapsWithSole [.Tuple [.Name x p1, .Name y p2] kk tpos] e pos.line X.env = pure false) (h2 : swappedStores [.Tuple [.Name x p1, .Name y p2] kk tpos] e X.env = pure (some [x, y])) : Ex X vs cs (.Assign [.Tuple [.Name x p1, .Name y p2] kk tpos] e pos :: rest) N R :=
  ex_cons fun ts s i => by
    show wpAny _ _ (standAt pos >>= fun _ => swapsWithSole [.Tuple [.Name x p1, .Name y p2] kk tpos] e pos.line X.env >>= fun b => if b then _ else eval e X.env >>= fun v => swappedStores [.Tuple [.Name x p1, .Name y p2] kk tpos] e X.env >>= fun o => assignStores X.env v o _) _ _ _
    rw [h1, h2]
    refine wpAny_bind (wpAny_standAt (wpAny_bind (wpAny_pure ?_)))
    rw [if_neg (by decide)]
    refine wpAny_bind (wm (he ts s i) fun v s1 ⟨F, i1⟩ => wpAny_bind (wpAny_pure ?_))
    obtain ⟨a, us, n, rfl, e, hi⟩ := isTup (i1.tmp _ (.head _))
    unfold assignStores
    refine wpAny_bind (wpAny_rule (wpAny_bind ?_))
    have hz : us.size = 2 := hi.size
    have qq := wpAny_unpackItems_tuple (prog := c.prog) (w := c.w) (A := X.A) (E := fun _ _ => False) (s := s1) (t := a) (items := us) (Q := fun l s' => l = us.toList ∧ ∃ h', Keep s1.heap h' ∧ s' = { s1 with heap := h' }) X.rm.hd ⟨_, i1.on _ _ e, rfl, n, rfl⟩
      (fun h' ext => ⟨rfl, h', fun b o e => ext b o (Nat.ne_of_lt (Heap.lt_size e)) e, rfl⟩)
    rw [hz] at qq
    refine wm qq fun l s2 ⟨hl, h', kp, hs2⟩ => ?_
    subst hl hs2
    have j := i1.keeps (t := s1.toks) kp
    obtain ⟨us⟩ := us
    obtain ⟨u1, u2, rfl, hp, hq⟩ := iss2 (show Iss F [p, q] us from hi)
    refine wpAny_bind ?_
    show wpAny _ _ (holding [u1] (bindName X.env y u2) >>= fun _ => holding [] (bindName X.env x u1) >>= fun _ => pure ()) _ _ _
    have j2 := (j.pop.push _ _ hp).push _ _ hq
    refine wpAny_bind (wpAny_holding (wpAny_bindName (wm (st_any (.loc g1) j2.inv (.head _)) fun _ s3 i3 => ?_)))
    refine wpAny_bind (wpAny_holding (wpAny_bindName (wm (st_any (.loc g2) i3 (.tail _ (.head _))) fun _ s4 i4 => ?_)))
    exact wpAny_pure (wpAny_pure ⟨vs2, cs1, i4.pop2, r⟩)

/-! for -/
/-- an iterator of ours: what it hands out in its turn i -/
structure It (c : Cx) (A : Around) (I : Addr) (n : Nat) (P : Nat → Obj → Prop) (item : Nat → PV) (Z : Fz → Prop) : Prop where
  next : ∀ i s F (Q : Option Value → Shared → Prop), i < n → Z F → F.on s.heap → (∃ o, s.heap.get? I = some o ∧ P i o) →
    (∀ v h' tk, Is F (item i) v → (∃ o, h'.get? I = some o ∧ P (i + 1) o) → (∀ b o, b ≠ I → s.heap.get? b = some o → h'.get? b = some o) → Q (some v) { s with heap := h', toks := tk }) → wpAny (model c.prog c.w) A (pyNext (.ref I)) Q (fun _ _ => False) s
  stop : ∀ s F (Q : Option Value → Shared → Prop), Z F → F.on s.heap → (∃ o, s.heap.get? I = some o ∧ P n o) →
    (∀ h' tk, (∀ b o, b ≠ I → s.heap.get? b = some o → h'.get? b = some o) → Q none { s with heap := h', toks := tk }) → wpAny (model c.prog c.w) A (pyNext (.ref I)) Q (fun _ _ => False) s
  own : ∀ i s tg v, (∃ o, s.heap.get? I = some o ∧ P i o) → ∀ (Q : Unit → Shared → Prop), Q () s → wpAny (model c.prog c.w) A (letOwnedTupleGo tg (.ref I) v) Q (fun _ _ => False) s

theorem own_any {A : Around} {I : Addr} {o : Obj} {T : String} {tg : Expr} {v : Value} {Q : Unit → Shared → Prop} (ho : s.heap.get? I = some o) (hc : o.cls = .type T)
    (hT : ["enumerate", "zip", "dict_itemiterator", "dict_reverseitemiterator", "odict_iterator", "itertools.zip_longest", "itertools.pairwise"].contains T = false) (q : Q () s) : wpAny (model c.prog c.w) A (letOwnedTupleGo tg (.ref I) v) Q (fun _ _ => False) s := by
  have body : ∀ (b : Addr), wpAny (model c.prog c.w) A (load I >>= fun o => match o.cls, o.data with
      | .type n, .fields vs => if (["enumerate", "zip", "dict_itemiterator", "dict_reverseitemiterator", "odict_iterator", "itertools.zip_longest", "itertools.pairwise"].contains n && vs[0]? == some (rawInt b)) = true then (do rule "for.unpacks-the-owned-tuple"; updateField I 0 .none) else pure ()
      | _, _ => pure ()) Q (fun _ _ => False) s := by
    intro b
    refine wpAny_bind (wpAny_load ho ?_)
    rw [hc]
    cases o.data <;> first | exact wpAny_pure q | (dsimp only; rw [hT]; exact wpAny_pure q)
  cases tg <;> first | exact wpAny_pure q | (cases v <;> first | exact wpAny_pure q | exact body _)
theorem It.range {A : Around} (hA : A.handled = none) (I : Addr) (lo : Int) (n : Nat) : It c A I n (fun i o => o = { cls := .type "range_iterator", data := .fields #[rawInt (lo + i), rawInt ((n : Int) - i), rawInt 1] }) (fun i => .int (lo + i)) (fun _ => True) where
  next := fun i s F Q hi _ _ ⟨o, ho, e⟩ h => by
    subst e
    refine wpAny_pyNext_range_item ho (by lia) fun h' hit sb => ?_
    refine h _ h' _ .int ⟨_, hit, ?_⟩ (fun b o hb e => sb.extBut b o hb e)
    show _ = ({ cls := .type "range_iterator", data := .fields #[rawInt (lo + (i + 1 : Nat)), rawInt ((n : Int) - (i + 1 : Nat)), rawInt 1] } : Obj)
    rw [show lo + (i : Int) + 1 = lo + (i + 1 : Nat) by lia, show (n : Int) - i - 1 = n - (i + 1 : Nat) by lia]
  stop := fun s F Q _ _ ⟨o, ho, e⟩ h => by
    subst e
    exact wpAny_pyNext_range_end hA ho (by lia) fun h' ext => h h' s.toks fun b o hb e => ext b o hb e
  own := fun i s tg v ⟨o, ho, e⟩ Q q => by
    subst e
    exact own_any ho rfl (by decide) q
theorem It.weaken {A : Around} {I : Addr} {n : Nat} {P : Nat → Obj → Prop} {item : Nat → PV} {Z : Fz → Prop} (h : It c A I n P item fun _ => True) : It c A I n P item Z :=
  ⟨fun i s F Q hi _ => h.next i s F Q hi trivial, fun s F Q _ => h.stop s F Q trivial, h.own⟩
theorem It.list {A : Around} (hA : A.handled = none) (I l : Addr) (ps : List PV) (hne : I ≠ l) : It c A I ps.length (fun i o => o.cls = .type "list_iterator" ∧ o.data = .fields #[.ref l, .int i 0]) (fun i => ps.getD i .none) (fun F => Is F (.list ps) (.ref l)) where
  next := fun i s F Q hi hz on ⟨o, ho, h1, h2⟩ h => by
    obtain ⟨a, us, n, e, e1, his⟩ := isList hz
    cases e
    obtain ⟨v, hv, hiv⟩ := his.get i _ (List.getElem?_eq_getElem hi)
    refine wpAny_pyNext_list_item ⟨o, ho, h1, h2⟩ (IsList_of (on _ _ e1)) (by simpa using hv) fun h' hit sb => ?_
    obtain ⟨o', ho', h1', h2'⟩ := hit
    have : ps.getD i .none = ps[i] := by simp [hi]
    refine h v h' s.toks (by rw [this]; exact hiv) ⟨o', ho', h1', h2'⟩ (fun b o hb e => sb.extBut b o hb e)
  stop := fun s F Q hz on ⟨o, ho, h1, h2⟩ h => by
    obtain ⟨a, us, n, e, e1, his⟩ := isList hz
    cases e
    refine wpAny_pyNext_list_end hA ⟨o, ho, h1, h2⟩ (IsList_of (on _ _ e1)) ?_ fun h' ext => h h' s.toks fun b o hb e => ext b o hb e
    have := his.size
    rw [Array.getElem?_eq_none_iff]; lia
  own := fun i s tg v ⟨o, ho, h1, h2⟩ Q q => own_any ho h1 (by decide) q

/-- the loop, the iterator in hand -/
theorem loop_run {I : Addr} {n : Nat} {P : Nat → Obj → Prop} {item : Nat → PV} {u : Value} {q : PV} (it : It c X.A I n P item fun F => Is F q u) (hW : ¬ X.W I) (J : Nat → List (Option PV) → Cells → Prop) {target : Expr} {body rest : List Stmt}
    (hb : ∀ i vs cs, i < n → J i vs cs → ∀ z : Addr × CV, ∃ vs1 cs1, (∀ (v : Value) (ts : List (Value × PV)) (s : Shared), Inv X vs (z :: cs) ((v, item i) :: ts) s → wpAny (model c.prog c.w) X.A (assign target X.env v) (fun _ s' => Inv X vs1 (z :: cs1) ts s') (fun _ _ => False) s) ∧
      Ex X vs1 (z :: cs1) body (fun vs' cs' => ∃ cs0 vs'', cs' = z :: cs0 ∧ Fsub vs' vs'' ∧ J (i + 1) vs'' cs0) (fun p cs' => ∃ cs0, cs' = z :: cs0 ∧ R p cs0))
    (i0 : Inv X vs ((I, .st (P 0)) :: cs) ((u, q) :: ts) s) (j0 : J 0 vs cs) (hr : ∀ vs cs, J n vs cs → Ex X vs cs rest N R) :
    codeAny (model c.prog c.w) X.A (.forLoop target (.ref I) body [] X.env) (fun r s' => match r with | .ok f => (match f with | .next => ∃ vs' cs', Inv X vs' cs' ts s' ∧ Ex X vs' cs' rest N R | f => ExPost X ts N R f s') | .error e => cameBackBy (model c.prog c.w) X.A X.env (fun _ _ => False) e s') s := by
  refine codeAny_forLoop_any (fun m s => ∃ i vs cs, i ≤ n ∧ m = n - i ∧ J i vs cs ∧ Inv X vs ((I, .st (P i)) :: cs) ((u, q) :: ts) s) (fun m s h => ?_) n ⟨0, vs, cs, Nat.zero_le _, rfl, j0, i0⟩
  obtain ⟨i, vs, cs, hi, rfl, hj, F, x⟩ := h
  have hz := x.tmp _ (.head _)
  obtain ⟨⟨o, ho, hp⟩, c2, c3, c4⟩ := x.cell _ (.head _)
  rcases Nat.lt_or_ge i n with hlt | hge
  · refine wpAny_mono (it.next i s F _ hlt hz x.on ⟨o, ho, hp⟩ fun v h' tk hv hI kp => ?_) (fun _ _ h => h) fun _ _ f => f.elim
    have y : InvF X F vs ((I, .st (P (i + 1))) :: cs) ((u, q) :: ts) { s with heap := h', toks := tk } :=
      x.setCell .head (Fz.le_refl _) (fun b ob e => kp b ob (fun q => by have c2' : F I = none := c2; rw [q, c2'] at e; cases e) (x.on b ob e)) (fun _ _ _ n => n) kp hI
    dsimp only
    refine wpAny_mono (it.own (i + 1) _ target v hI _ ?_) (fun _ _ h => h) fun _ _ f => f.elim
    obtain ⟨vs1, cs1, ha, he⟩ := hb i vs cs hlt hj (I, .st (P (i + 1)))
    refine wpAny_mono (ha v ((u, q) :: ts) _ (y.push _ _ hv).inv) (fun _ s2 i2 => ?_) fun _ _ f => f.elim
    refine wpAny_mono (he _ s2 i2) (fun f s3 z => ?_) fun _ _ f => f.elim
    cases f with
    | next =>
      obtain ⟨vs', cs', ⟨cs0, vs'', rfl, hsub, hj'⟩, i3⟩ := z
      exact ⟨n - (i + 1), by lia, i + 1, vs'', cs0, hlt, rfl, hj', i3.fsub hsub⟩
    | ret v =>
      obtain ⟨p, vs', cs', ⟨cs0, rfl, hR⟩, i3⟩ := z
      exact ⟨p, vs', cs0, hR, (i3.swap.pop).dropCell⟩
    | brk => exact z.elim
    | cont => exact z.elim
  · have : i = n := by lia
    subst this
    refine wpAny_mono (it.stop s F _ hz x.on ⟨o, ho, hp⟩ fun h' tk kp => ?_) (fun _ _ h => h) fun _ _ f => f.elim
    have y : InvF X F vs cs ((u, q) :: ts) { s with heap := h', toks := tk } := by
      obtain ⟨m, hn, hm⟩ := x.loc
      have c2' : F I = none := c2
      refine ⟨?_, fun b ob e => kp b ob (fun q => by rw [q, c2'] at e; cases e) (x.on b ob e), x.le, x.fresh, fun b ob e n => ?_, fun b hb => ?_, ⟨m, hn.at' fun o e => kp _ o (Ne.symm c3) e, hm⟩, x.nL, fun z hz => ?_, (List.nodup_cons.mp x.nd).2, x.tmp⟩
      · obtain ⟨h0, t0, e⟩ := x.st; exact ⟨h', tk, by rw [e]⟩
      · refine kp b ob (fun q => ?_) (x.keep b ob e n)
        subst q
        rcases c4 with h4 | h4
        · exact n h4
        · rw [h4] at e; cases e
      · obtain ⟨h1, o', h2⟩ := x.wr b hb
        exact ⟨h1, o', kp b o' (fun q => hW (q ▸ hb)) h2⟩
      · obtain ⟨d1, d2, d3, d4⟩ := x.cell z (.tail _ hz)
        refine ⟨d1.mono (Fz.le_refl _) fun o e => kp _ o (fun q => ?_) e, d2, d3, d4⟩
        exact (List.nodup_cons.mp x.nd).1 (List.mem_map.mpr ⟨z, hz, q⟩)
    dsimp only
    exact wpAny_execs_nil ⟨vs, cs, y.pop.inv, hr vs cs hj⟩

theorem InvF.fresh_not_W (x : InvF X F vs cs ts s) : ¬ X.W s.heap.objs.size := fun h => by
  obtain ⟨_, o, ho⟩ := x.wr _ h
  exact absurd (Heap.lt_size ho) (Nat.lt_irrefl _)

/-- the turns' bodies, for a plain name as target -/
noncomputable def Turns (X : Fx c k ks gl cl) (x : Str) (n : Nat) (item : Nat → PV) (J : Nat → List (Option PV) → Cells → Prop) (body : List Stmt) (R : PV → Cells → Prop) : Prop :=
  ∀ i vs cs, i < n → J i vs cs → ∃ vs1, SetAt ks vs x (item i) vs1 ∧ ∀ z : Addr × CV, Ex X vs1 (z :: cs) body (fun vs' cs' => ∃ cs0 vs'', cs' = z :: cs0 ∧ Fsub vs' vs'' ∧ J (i + 1) vs'' cs0) (fun p cs' => ∃ cs0, cs' = z :: cs0 ∧ R p cs0)
theorem Turns.loop {x : Str} {n : Nat} {item : Nat → PV} {J : Nat → List (Option PV) → Cells → Prop} {body : List Stmt} {px : Pos} (h : Turns X x n item J body R) : ∀ i vs cs, i < n → J i vs cs → ∀ z : Addr × CV, ∃ vs1 cs1, (∀ (v : Value) (ts : List (Value × PV)) (s : Shared), Inv X vs (z :: cs) ((v, item i) :: ts) s → wpAny (model c.prog c.w) X.A (assign (.Name x px) X.env v) (fun _ s' => Inv X vs1 (z :: cs1) ts s') (fun _ _ => False) s) ∧
      Ex X vs1 (z :: cs1) body (fun vs' cs' => ∃ cs0 vs'', cs' = z :: cs0 ∧ Fsub vs' vs'' ∧ J (i + 1) vs'' cs0) (fun p cs' => ∃ cs0, cs' = z :: cs0 ∧ R p cs0) := by
  intro i vs cs hi hj z
  obtain ⟨vs1, g, he⟩ := h i vs cs hi hj
  exact ⟨vs1, cs, fun v ts s x => wpAny_assign_Name (st_local g x), he z⟩

/-- for x in range(lo, hi) -/
theorem small_ok {lo hi : Int} (h1 : -1000000 ≤ lo) (h2 : lo ≤ 1000000) (h3 : -1000000 ≤ hi) (h4 : hi ≤ 1000000) : Builtin.Range.small lo hi 1 = true := by
  unfold Builtin.Range.small
  rw [rangeSize_nat]
  have fl : ∀ x : Int, -3000000 ≤ x → x ≤ 3000000 → Builtin.Range.rangeFitsLong x = true := by
    intro x h1 h2; unfold Builtin.Range.rangeFitsLong; simp; lia
  rw [fl lo (by lia) (by lia), fl hi (by lia) (by lia), fl 1 (by lia) (by lia), fl _ (by lia) (by lia)]
  simp only [Bool.and_self, Bool.true_and, show (1 : Int) > 0 by decide, if_true]
  rw [fl (hi + (1 - 1)) (by lia) (by lia), Bool.or_true]
end
end Mine

end
section
open PySem PySem.W PyProof.Rows
namespace Mine
open PySem PySem.Calls PySem.W PyProof.Rows PySem.Builtin.Str

section
variable {c : Cx} {k : Nat} {ks gl : List Str} {cl : List (Str × Addr)} {X : Fx c k ks gl cl} {F : Fz} {vs vs1 vs2 vs' : List (Option PV)} {cs cs1 cs2 cs3 cs4 : Cells} {ts ts' : List (Value × PV)} {s : Shared}
  {N : List (Option PV) → Cells → Prop} {R : PV → Cells → Prop}

/-- what a for or a comprehension goes over -/
noncomputable def SrcR (X : Fx c k ks gl cl) (vs : List (Option PV)) (cs : Cells) (e : Expr) (n : Nat) (item : Nat → PV) (cs' : Cells) : Prop :=
  ∀ ts s, Inv X vs cs ts s → wpAny (model c.prog c.w) X.A (eval e X.env) (fun xv s1 => wpAny (model c.prog c.w) X.A (pyIter xv) (fun it s2 => ∃ I P u q, it = .ref I ∧ It c X.A I n P item (fun F => Is F q u) ∧ (¬ X.W I) ∧
    (∀ i s (Q : Value → Shared → Prop) (E : Value → Shared → Prop), (∃ o, s.heap.get? I = some o ∧ P i o) → Q (.ref I) s → wpAny (model c.prog c.w) X.A (pyIter (.ref I)) Q E s) ∧
    Inv X vs ((I, .st (P 0)) :: cs') ((u, q) :: ts) s2) (fun _ _ => False) s1) (fun _ _ => False) s

theorem src_range2 {cpos : Pos} {fe e1 e2 : Expr} {lo hi : Int} (hf : Ev X vs cs fe (.raw (.type "range")) cs) (ha : EvL X vs cs cpos [e1, e2] [.int lo, .int hi] cs1) (hlo : -1000000 ≤ lo ∧ lo ≤ 1000000 ∧ -1000000 ≤ hi ∧ hi ≤ 1000000)
    (hst : (starEach [e1, e2] X.env).any (·.1) = false := by rfl)
    (hev : eval (.Call fe [e1, e2] [] cpos) X.env = (do callWith cpos (← eval fe X.env) [] (backTo cpos (starEach [e1, e2] X.env)) (backToKw cpos (keywordEach [] X.env))) := by rfl) :
    SrcR X vs cs (.Call fe [e1, e2] [] cpos) (hi - lo).toNat (fun i => .int (lo + i)) cs1 := fun ts s i => by
  rw [hev]
  refine wpAny_bind (wm (hf ts s i) fun v s1 i1 => ?_)
  have := i1.traw; subst this
  refine _root_.PySem.callWith_type (star_none hst) (evalArgs_of (star_none hst) (wm (ha _ s1 i1.pop) fun us s2 ⟨l, ⟨F, i2⟩⟩ => ?_))
  obtain ⟨u1, u2, rfl, h1, h2⟩ := iss2 (i2.args l)
  obtain ⟨t1, rfl⟩ := isInt h1
  obtain ⟨t2, rfl⟩ := isInt h2
  obtain ⟨m, news, Fh, Nw, k1, k2⟩ := i2.popN.viaN
  refine range2_rows Fh Nw fun h' tk a1 a2 a3 hr' F' N' kp => ?_
  refine wpAny_pyIter_range hr' (small_ok hlo.1 hlo.2.1 hlo.2.2.1 hlo.2.2.2) ?_
  have x2 := i2.popN.keeps (t := tk) kp
  have hn := rangeSize_nat lo hi
  have x3 := x2.newCell { cls := .type "range_iterator", data := .fields #[rawInt lo, rawInt (Builtin.Range.rangeSize lo hi 1), rawInt 1] }
    (.st fun o => o = { cls := .type "range_iterator", data := .fields #[rawInt (lo + (0 : Nat)), rawInt (((hi - lo).toNat : Int) - (0 : Nat)), rawInt 1] })
    ⟨_, Heap.get?_push_size _ rfl, by rw [hn]; simp⟩
  exact ⟨_, _, .none, .none, rfl, (It.range X.rm.hd _ lo (hi - lo).toNat).weaken, x2.fresh_not_W, fun i s Q E ⟨o, ho, e⟩ q => by subst e; exact wpAny_pyIter_rangeiter ho q, (x3.push .none .none .none).inv⟩
theorem src_range1 {cpos : Pos} {fe e1 : Expr} {hi : Int} (hf : Ev X vs cs fe (.raw (.type "range")) cs) (ha : EvL X vs cs cpos [e1] [.int hi] cs1) (hlo : -1000000 ≤ hi ∧ hi ≤ 1000000)
    (hst : (starEach [e1] X.env).any (·.1) = false := by rfl)
    (hev : eval (.Call fe [e1] [] cpos) X.env = (do callWith cpos (← eval fe X.env) [] (backTo cpos (starEach [e1] X.env)) (backToKw cpos (keywordEach [] X.env))) := by rfl) :
    SrcR X vs cs (.Call fe [e1] [] cpos) hi.toNat (fun i => .int i) cs1 := fun ts s i => by
  rw [hev]
  refine wpAny_bind (wm (hf ts s i) fun v s1 i1 => ?_)
  have := i1.traw; subst this
  refine _root_.PySem.callWith_type (star_none hst) (evalArgs_of (star_none hst) (wm (ha _ s1 i1.pop) fun us s2 ⟨l, ⟨F, i2⟩⟩ => ?_))
  obtain ⟨u1, rfl⟩ := args1 l
  obtain ⟨t1, rfl⟩ := isInt (i2.tmp _ (.head _))
  obtain ⟨m, news, Fh, Nw, k1, k2⟩ := i2.popN.viaN
  refine range1_rows Fh Nw fun h' tk a1 a2 a3 hr' F' N' kp => ?_
  refine wpAny_pyIter_range hr' (small_ok (by omega) (by omega) hlo.1 hlo.2) ?_
  have x2 := i2.popN.keeps (t := tk) kp
  have hn := rangeSize_nat 0 hi
  rw [Int.sub_zero] at hn
  have x3 := x2.newCell { cls := .type "range_iterator", data := .fields #[rawInt 0, rawInt (Builtin.Range.rangeSize 0 hi 1), rawInt 1] }
    (.st fun o => o = { cls := .type "range_iterator", data := .fields #[rawInt ((0 : Int) + (0 : Nat)), rawInt ((hi.toNat : Int) - (0 : Nat)), rawInt 1] })
    ⟨_, Heap.get?_push_size _ rfl, by rw [hn]; simp⟩
  have it := It.range (c := c) X.rm.hd h'.objs.size 0 hi.toNat
  simp only [Int.zero_add] at it
  simp only [Int.zero_add] at x3
  exact ⟨_, _, .none, .none, rfl, it.weaken, x2.fresh_not_W, fun i s Q E ⟨o, ho, e⟩ q => by subst e; exact wpAny_pyIter_rangeiter ho q, (x3.push .none .none .none).inv⟩
theorem src_list {e : Expr} {ps : List PV} (h : Ev X vs cs e (.list ps) cs1) : SrcR X vs cs e ps.length (fun i => ps.getD i .none) cs1 := fun ts s i => by
  refine wm (h ts s i) fun v s1 ⟨F, i1⟩ => ?_
  obtain ⟨a, us, n, rfl, e1, his⟩ := isList (i1.tmp _ (.head _))
  refine wpAny_pyIter_list (IsList_of (i1.on _ _ e1)) ?_
  have x3 := i1.newCell { cls := .type "list_iterator", data := .fields #[.ref a, .int 0 0] } (.st fun o => o.cls = .type "list_iterator" ∧ o.data = .fields #[.ref a, .int ((0 : Nat) : Int) 0]) ⟨_, Heap.get?_push_size _ rfl, rfl, rfl⟩
  exact ⟨_, _, .ref a, .list ps, rfl, It.list X.rm.hd _ a ps (Nat.ne_of_gt (Heap.lt_size (i1.on _ _ e1))), i1.fresh_not_W, fun i s Q E ⟨o, ho, h1, h2⟩ q => wpAny_pyIter_listiter ⟨o, ho, h1, h2⟩ q, x3.inv⟩

/-- for x in .. -/
theorem ex_for {x : Str} {px pos : Pos} {e : Expr} {n : Nat} {item : Nat → PV} {body rest : List Stmt} (J : Nat → List (Option PV) → Cells → Prop) (h : SrcR X vs cs e n item cs1) (j0 : J 0 vs cs1) (hb : Turns X x n item J body R) (hr : ∀ vs cs, J n vs cs → Ex X vs cs rest N R)
    (hs : ∀ v, foldedSetIterable e X.env v = pure v := by intro _; rfl) : Ex X vs cs (.For (.Name x px) e body [] pos :: rest) N R :=
  ex_cons fun ts s i => by
    refine wpAny_For (wm (h ts s i) fun xv s1 h1 => wm h1 fun it s2 h2 => ?_) hs
    obtain ⟨I, P, u, q, rfl, hit, hW, _, i2⟩ := h2
    refine codeAny_mono (loop_run hit hW J hb.loop i2 j0 hr) fun r s' h => ?_
    cases r with
    | ok f => exact h
    | error e => exact h
/-- for a, b, .. in .. -/
theorem ex_forT {tg : List Expr} {kk : Nat} {px pos : Pos} {e : Expr} {n : Nat} {item : Nat → List PV} {body rest : List Stmt} (J : Nat → List (Option PV) → Cells → Prop) (h : SrcR X vs cs e n (fun i => .tup (item i)) cs1) (j0 : J 0 vs cs1)
    (hb : ∀ i vs cs, i < n → J i vs cs → ∃ vs1, (∀ z : Addr × CV, StVs X vs (z :: cs) tg (item i) vs1 (z :: cs)) ∧ ∀ z : Addr × CV, Ex X vs1 (z :: cs) body (fun vs' cs' => ∃ cs0 vs'', cs' = z :: cs0 ∧ Fsub vs' vs'' ∧ J (i + 1) vs'' cs0) (fun p cs' => ∃ cs0, cs' = z :: cs0 ∧ R p cs0))
    (hr : ∀ vs cs, J n vs cs → Ex X vs cs rest N R) (hs : ∀ v, foldedSetIterable e X.env v = pure v := by intro _; rfl) : Ex X vs cs (.For (.Tuple tg kk px) e body [] pos :: rest) N R :=
  ex_cons fun ts s i => by
    refine wpAny_For (wm (h ts s i) fun xv s1 h1 => wm h1 fun it s2 h2 => ?_) hs
    obtain ⟨I, P, u, q, rfl, hit, hW, _, i2⟩ := h2
    refine codeAny_mono (loop_run hit hW J (fun i vs cs hi hj z => ?_) i2 j0 hr) fun r s' h => ?_
    · obtain ⟨vs1, g, he⟩ := hb i vs cs hi hj
      exact ⟨vs1, cs, fun v ts s x => assign_tuple (g z) X.rm.hd x, he z⟩
    · cases r with
      | ok f => exact h
      | error e => exact h

/-! what something that turns own objects leaves -/
theorem InvF.postC (x : InvF X F vs cs ts s) {G : Fz} {s' : Shared} {W : List Addr} (p : PostF F s G s' W) (hWj : ∀ a ∈ W, a ∈ cs.map (·.1) ∨ (a ≠ X.env.locals ∧ (¬ X.W a) ∧ X.s0.heap.get? a = none)) (hf : cs1.map (·.1) = cs.map (·.1)) (hc : ∀ z ∈ cs1, CellAt G s'.heap z) : InvF X G vs cs1 ts s' := by
  obtain ⟨h, tk, rfl⟩ := p.st
  have inW : ∀ a, a ∈ cs.map (·.1) → F a = none ∧ a ≠ X.env.locals ∧ (X.W a ∨ X.s0.heap.get? a = none) ∧ ∃ o, s.heap.get? a = some o := by
    intro a ha
    obtain ⟨z, hz, rfl⟩ := List.mem_map.mp ha
    obtain ⟨d1, d2, d3, d4⟩ := x.cell z hz
    exact ⟨d2, d3, d4, d1.some⟩
  obtain ⟨m, hn, hm⟩ := x.loc
  refine ⟨?_, p.on, x.le.trans p.le, fun b o e n => ?_, fun b o e n => ?_, fun b hb => ?_, ⟨m, ?_, fun y q g => ?_⟩, ⟨?_, x.nL.2⟩, fun z hz => ?_, hf ▸ x.nd, fun t ht => (x.tmp t ht).mono p.le⟩
  · obtain ⟨h0, t0, e⟩ := x.st; exact ⟨h, tk, by rw [e]⟩
  · by_cases hw : X.W b
    · obtain ⟨h1, o', h2⟩ := x.wr b hw; exact p.fresh b o' h2 h1
    · exact p.fresh b o (x.keep b o e hw) (x.fresh b o e n)
  · refine p.keep b o (x.keep b o e n) fun hm => ?_
    rcases hWj b hm with hm | ⟨_, _, h4⟩
    · rcases (inW b hm).2.2.1 with h4 | h4
      · exact n h4
      · rw [h4] at e; cases e
    · rw [h4] at e; cases e
  · obtain ⟨h1, o', h2⟩ := x.wr b hb
    refine ⟨p.fresh b o' h2 h1, ?_⟩
    by_cases hm : b ∈ cs.map (·.1)
    · rw [← hf] at hm
      obtain ⟨z, hz, rfl⟩ := List.mem_map.mp hm
      exact (hc z hz).some
    · exact ⟨o', p.keep b o' h2 fun hm' => (hWj b hm').elim hm fun h => h.2.1 hb⟩
  · exact hn.at' fun o e => p.keep _ o e fun hm => (hWj _ hm).elim (fun hm => (inW _ hm).2.1 rfl) fun h => h.1 rfl
  · obtain ⟨v, h1, h2⟩ := hm y q g
    exact ⟨v, h1, h2.mono p.le⟩
  · obtain ⟨o', _, _, ho, _⟩ := hn
    exact p.fresh _ o' ho x.nL.1
  · have hz' : z.1 ∈ cs.map (·.1) := hf ▸ List.mem_map_of_mem hz
    obtain ⟨d1, d2, d3, o, ho⟩ := inW _ hz'
    exact ⟨hc z hz, p.fresh _ o ho d1, d2, d3⟩

/-! comprehensions -/
structure CompOk (X : Fx c k ks gl cl) (scope : Scope) (x : Str) (gl' : List Str) (cl' clo : List (Str × Addr)) : Prop where
  clos : closureFor scope X.env = pure clo
  cell : ∀ y ∈ scope.names, y.2 ≠ .cell
  kind : scope.kind = .function
  names : ∀ y ∈ scope.names, y.2 = .local → scope.names.lookup y.1 = some .local
  loc : scope.names.lookup x = some .local
  gls : ∀ y ∈ gl', scope.names.lookup y = some .globalImplicit
  cls : ∀ y ∈ cl', scope.names.lookup y.1 = some .free ∧ clo.lookup y.1 = some y.2
theorem relabel_glob {scope : Scope} {env : Env} {x : Str} (h : scope.names.lookup x = some .globalImplicit) : (relabel scope env).names.lookup x = some .globalImplicit := by
  unfold relabel
  dsimp only
  generalize scope.names = l at h
  induction l with
  | nil => cases h
  | cons y l ih =>
    obtain ⟨n, kd⟩ := y
    rw [List.map_cons]
    cases hb : x == n with
    | true =>
      rw [List.lookup_cons, hb] at h
      cases h
      show List.lookup x ((if (NameKind.globalImplicit == NameKind.free && _ && _) = true then _ else (n, NameKind.globalImplicit)) :: _) = _
      rw [if_neg (by simp), List.lookup_cons, hb]
    | false =>
      rw [List.lookup_cons, hb] at h
      have : ∀ kd', List.lookup x ((n, kd') :: (l.map fun x => match x with | (n, k) => if (k == NameKind.free && env.scope.kind == ScopeKind.function && env.kindOf n == some NameKind.cell) = true then (n, NameKind.cell) else (n, k))) = some .globalImplicit := by
        intro kd'; rw [List.lookup_cons, hb]; exact ih h
      dsimp only
      split <;> exact this _
theorem relabel_free {scope : Scope} {env : Env} {x : Str} (h : scope.names.lookup x = some .free) : (relabel scope env).names.lookup x = some .cell ∨ (relabel scope env).names.lookup x = some .free := by
  unfold relabel
  dsimp only
  generalize scope.names = l at h
  induction l with
  | nil => cases h
  | cons y l ih =>
    obtain ⟨n, kd⟩ := y
    rw [List.map_cons]
    cases hb : x == n with
    | true =>
      rw [List.lookup_cons, hb] at h
      cases h
      dsimp only
      split
      · left; rw [List.lookup_cons, hb]
      · right; rw [List.lookup_cons, hb]
    | false =>
      rw [List.lookup_cons, hb] at h
      have := ih h
      dsimp only at this ⊢
      split <;> (rw [List.lookup_cons, hb]; exact this)

/-- the block of a comprehension as a place of its own -/
theorem comp_fx (X : Fx c k ks gl cl) {scope : Scope} {x : Str} {gl' : List Str} {cl' clo : List (Str × Addr)} (ok : CompOk X scope x gl' cl' clo) (s3 : Shared) (F : Fz) (W : Addr → Prop) (cf : CF c F) (C : Addr) (hC : s3.heap.objs.size ≤ C) :
    ∃ X' : Fx c k [x] gl' cl', X'.A = X.A ∧ X'.env = compEnvC scope clo C X.env ∧ X'.s0 = s3 ∧ X'.F0 = F ∧ X'.W = W := by
  refine ⟨{ A := X.A, env := compEnvC scope clo C X.env, s0 := s3, F0 := F, W := W, rm := X.rm, cf := cf, kind := ok.kind, glob := X.glob, blt := X.blt, above := hC, nd := by simp,
            loc := fun y hy => ?_, gls := fun y hy => relabel_glob (ok.gls y hy), cls := fun y hy => ⟨relabel_free (ok.cls y hy).1, (ok.cls y hy).2⟩ }, rfl, rfl, rfl, rfl, rfl⟩
  have : y = x := by simpa using hy
  subst this
  exact lookup_relabel_local ok.loc

/-- one turn's test -/
theorem tests_none {A : Around} {env : Env} {Q : Bool → Shared → Prop} {E : Value → Shared → Prop} (h : Q true s) : wpAny (model c.prog c.w) A (forIn [] true fun c r => if r = true then do let ok ← isTrue c env (eval c env); pure (ForInStep.yield ok) else pure (ForInStep.yield r)) Q E s := by
  rw [List.forIn_nil]; exact wpAny_pure h
theorem tests_one' {A : Around} {env : Env} {t : Expr} {Q : Bool → Shared → Prop} {E : Value → Shared → Prop} (h : wpAny (model c.prog c.w) A (isTrue t env (eval t env)) Q E s) : wpAny (model c.prog c.w) A (forIn [t] true fun c r => if r = true then do let ok ← isTrue c env (eval c env); pure (ForInStep.yield ok) else pure (ForInStep.yield r)) Q E s := by
  rw [List.forIn_cons, if_pos rfl]
  refine wpAny_bind (wpAny_bind (wm h fun b s1 q => wpAny_pure ?_))
  dsimp only
  rw [List.forIn_nil]
  exact wpAny_pure q

/-- the turns of a comprehension: γ the own objects, ρ what has been gathered -/
noncomputable def CTurns (X : Fx c k ks gl cl) (scope : Scope) (clo : List (Str × Addr)) (x : Str) (gl' : List Str) (cl' : List (Str × Addr)) (n : Nat) (item : Nat → PV) (γ : Nat → Cells) (ρ : Nat → List PV) (ifs : List Expr) (elt : Expr) : Prop :=
  ∀ i, i < n → ∀ (X' : Fx c k [x] gl' cl'), X'.A = X.A → X'.env.scope = relabel scope X.env → ∀ z1 z2 : Addr × CV,
    ∃ b, ((ifs = [] ∧ b = true) ∨ ∃ t, ifs = [t] ∧ ET X' [some (item i)] (z1 :: z2 :: γ i) t b (z1 :: z2 :: γ i)) ∧
      ((b = false ∧ γ (i + 1) = γ i ∧ ρ (i + 1) = ρ i) ∨ (b = true ∧ ∃ p, ρ (i + 1) = ρ i ++ [p] ∧ Ev X' [some (item i)] (z1 :: z2 :: γ i) elt p (z1 :: z2 :: γ (i + 1))))

theorem InvF.freeze {a : Addr} {ps : List PV} (x : InvF X F vs ((a, .lst ps) :: cs) ts s) (hW : ¬ X.W a) : ∃ G, F.le G ∧ InvF X G vs cs ts s ∧ Is G (.list ps) (.ref a) := by
  obtain ⟨⟨us, ⟨n, hl⟩, hi⟩, c2, c3, c4⟩ := x.cell _ (.head _)
  have c2' : F a = none := c2
  have le := Fz.le_add (o := listObj us n) c2'
  refine ⟨F.add a (listObj us n), le, ?_, .list Fz.add_self (hi.mono le)⟩
  have y : InvF X F vs cs ts s := ⟨x.st, x.on, x.le, x.fresh, x.keep, x.wr, x.loc, x.nL, fun z hz => x.cell z (.tail _ hz), (List.nodup_cons.mp x.nd).2, x.tmp⟩
  refine y.grow le (fun b p e => ?_) (fun b p e n hc => ?_)
  · by_cases q : b = a
    · subst q; rw [Fz.add_self] at e; cases e; exact hl
    · rw [Fz.add_ne q] at e; exact x.on b p e
  · have q : b ≠ a := by
      rcases hc with rfl | hw | ⟨z, hz, rfl⟩ | ⟨o', h'⟩
      · exact Ne.symm c3
      · exact fun q => hW (q ▸ hw)
      · exact fun q => (List.nodup_cons.mp x.nd).1 (List.mem_map.mpr ⟨z, hz, q⟩)
      · intro q; subst q
        rcases c4 with h4 | h4
        · exact hW h4
        · rw [h4] at h'; cases h'
    rw [Fz.add_ne q]; exact n
theorem getAt1_none {x y : Str} {p : PV} (g : GetAt [x] [none] y p) : False := by
  cases g with
  | tail g => cases g
/-- an object of the walk's own that nobody else knows -/
theorem InvF.addCell (x : InvF X F vs cs ts s) {a : Addr} {o : Obj} (ho : s.heap.get? a = some o) (hF : F a = none) (hL : a ≠ X.env.locals) (h0 : X.s0.heap.get? a = none) (hn : a ∉ cs.map (·.1)) : InvF X F vs ((a, .st (· = o)) :: cs) ts s := by
  refine ⟨x.st, x.on, x.le, x.fresh, x.keep, x.wr, x.loc, x.nL, fun z hz => ?_, ?_, x.tmp⟩
  · rcases List.mem_cons.mp hz with rfl | hz
    · exact ⟨⟨o, ho, rfl⟩, hF, hL, .inr h0⟩
    · exact x.cell z hz
  · rw [List.map_cons, List.nodup_cons]; exact ⟨hn, x.nd⟩
/-- such an object goes -/
theorem InvF.vanish {z0 : Addr × CV} (x : InvF X F vs (z0 :: cs) ts s) (hW : ¬ X.W z0.1) {h : Heap} {t : Nat} (kp : ∀ b o, b ≠ z0.1 → s.heap.get? b = some o → h.get? b = some o) : InvF X F vs cs ts { s with heap := h, toks := t } := by
  obtain ⟨c1, c2, c3, c4⟩ := x.cell _ (.head _)
  obtain ⟨m, hn, hm⟩ := x.loc
  have nd := x.nd
  rw [List.map_cons, List.nodup_cons] at nd
  refine ⟨?_, fun b ob e => kp b ob (fun q => by rw [q, c2] at e; cases e) (x.on b ob e), x.le, x.fresh, fun b ob e n => ?_, fun b hb => ?_, ⟨m, hn.at' fun o e => kp _ o (Ne.symm c3) e, hm⟩, x.nL, fun z hz => ?_, nd.2, x.tmp⟩
  · obtain ⟨h0, t0, e⟩ := x.st; exact ⟨h, t, by rw [e]⟩
  · refine kp b ob (fun q => ?_) (x.keep b ob e n)
    subst q
    rcases c4 with h4 | h4
    · exact n h4
    · rw [h4] at e; cases e
  · obtain ⟨h1, o', h2⟩ := x.wr b hb
    exact ⟨h1, o', kp b o' (fun q => hW (q ▸ hb)) h2⟩
  · obtain ⟨d1, d2, d3, d4⟩ := x.cell z (.tail _ hz)
    exact ⟨d1.mono (Fz.le_refl _) fun o e => kp _ o (fun q => nd.1 (List.mem_map.mpr ⟨z, hz, q⟩)) e, d2, d3, d4⟩
theorem comp_core {scope : Scope} {x : Str} {gl' : List Str} {cl' clo : List (Str × Addr)} {elt iter : Expr} {ifs : List Expr} {px pos pos' : Pos} {n : Nat} {item : Nat → PV} (γ : Nat → Cells) (ρ : Nat → List PV) (ok : CompOk X scope x gl' cl' clo) (h : SrcR X vs cs iter n item (γ 0))
    (hρ : ρ 0 = []) (hlen : ∀ i, i < n → (ρ i).length ≤ 1000000) (hγ : ∀ i, (γ i).map (·.1) = (γ 0).map (·.1)) (ht : CTurns X scope clo x gl' cl' n item γ ρ ifs elt) (hs : ∀ v, foldedSetIterable iter X.env v = pure v)
    {use : Option (Value → Sem Unit)} {Q : Value → Shared → Prop}
    (hfin : ∀ (C D : Addr) (o : Obj) (s' : Shared) (m : Str → Option Value), s'.heap.Ns C m → Inv X vs ((C, .st (· = o)) :: (D, .lst (ρ n)) :: γ n) ts s' → ¬ X.W C → ¬ X.W D → compPost (model c.prog c.w) X.A (fun _ _ => False) use Q (.ref D) C (.ok .next) s') (i : Inv X vs cs ts s) :
    wpAny (model c.prog c.w) X.A (comprehension (.ListComp elt [⟨.Name x px, iter, ifs, 0⟩] scope pos) scope X.env pos' (newList []) false (eval iter X.env) use) Q (fun _ _ => False) s := by
  refine wpAny_comprehension_free (use := use) rfl hs ok.clos ok.kind ok.names (wm (h ts s i) fun xv s1 h1 => wm h1 fun it s2 h2 => ?_)
  obtain ⟨I, P, u, q, rfl, hit, hW, hself, F, i2⟩ := h2
  refine wpAny_newObj_type ?_ (by show (0 : Nat) ≤ _; omega)
  have i3 := (i2.newCell (listObj #[] 0) (.lst []) ⟨#[], ⟨0, Heap.get?_push_size _ rfl⟩, .nil⟩)
  generalize hs3 : ({ s2 with heap := s2.heap.push (listObj #[] 0) } : Shared) = s3 at i3
  have hD : s2.heap.objs.size < s3.heap.objs.size := by rw [← hs3]; show _ < (s2.heap.push _).objs.size; rw [Heap.size_push]; omega
  generalize hDs : s2.heap.objs.size = D at i3 hD ⊢
  refine wpAny_newFunctionEnv ok.cell (by intro y hy; simp at hy) (fun h₁ hns hsb => ?_) ok.kind
  obtain ⟨X', eA, eE, e0, eF, eW⟩ := comp_fx X ok { s3 with heap := s3.heap.hide I } F (fun a => a ∈ ((D, CV.lst []) :: γ 0).map (·.1)) (X.cf.mono i3.le) s3.heap.objs.size (by show (s3.heap.hide I).objs.size ≤ _; rw [Heap.hide_size]; exact Nat.le_refl _)
  have kp : Keep s3.heap h₁ := fun b o e => hsb.extBut b o (Nat.ne_of_lt (Heap.lt_size e)) (Heap.get?_push_of_some _ e)
  have eL : X'.env.locals = s3.heap.objs.size := by rw [eE]; rfl
  have memW : ∀ a, X'.W a → a ≠ I ∧ ∃ z ∈ ((D, CV.lst []) :: (I, CV.st (P 0)) :: γ 0), z.1 = a := fun a ha => by
    rw [eW] at ha
    obtain ⟨z, hz, e⟩ := List.mem_map.mp ha
    have nd := i3.nd
    simp only [List.map_cons, List.nodup_cons, List.mem_cons, not_or] at nd
    rcases List.mem_cons.mp hz with rfl | hz'
    · exact ⟨fun q => nd.1.1 (by rw [← q]; exact e), _, .head _, e⟩
    · exact ⟨fun q => nd.2.1 (by rw [← q]; exact List.mem_map.mpr ⟨z, hz', e⟩), z, .tail _ (.tail _ hz'), e⟩
  have j0 : Inv X' [none] ((D, CV.lst []) :: (I, CV.st (P 0)) :: γ 0) [(u, q)] { s3 with heap := h₁, toks := s3.toks + ([] : List (Str × Value)).length } := by
    refine ⟨F, ⟨?_, i3.on.keeps kp, by rw [eF]; exact Fz.le_refl _, by rw [eF, e0]; exact fun a o _ n => n, by rw [e0]; exact fun a o e _ => kp a o (Heap.of_hide e), fun a ha => ?_, ⟨_, by rw [eL]; exact hns, fun y p g => (getAt1_none g).elim⟩, ⟨?_, fun ha => ?_⟩, fun z hz => ?_, i3.nd, fun t ht => ?_⟩⟩
    · rw [e0]; exact ⟨h₁, _, rfl⟩
    · obtain ⟨_, z, hz, rfl⟩ := memW a ha
      obtain ⟨d1, d2, _⟩ := i3.cell z hz
      obtain ⟨o, ho⟩ := d1.some
      exact ⟨d2, o, kp _ _ ho⟩
    · rw [eL]; exact i3.new (Nat.le_refl _)
    · obtain ⟨_, z, hz, e⟩ := memW _ ha
      obtain ⟨o, ho⟩ := (i3.cell z hz).1.some
      have := Heap.lt_size ho
      rw [e, eL] at this
      exact Nat.lt_irrefl _ this
    · obtain ⟨d1, d2, _⟩ := i3.cell z hz
      obtain ⟨o, ho⟩ := d1.some
      refine ⟨d1.mono (Fz.le_refl _) (kp _), d2, ?_, ?_⟩
      · rw [eL]; exact Nat.ne_of_lt (Heap.lt_size ho)
      · rw [eW, e0]
        rcases List.mem_cons.mp hz with rfl | hz
        · exact .inl (.head _)
        · rcases List.mem_cons.mp hz with rfl | hz
          · exact .inr (Heap.hide_self _ _)
          · exact .inl (.tail _ (List.mem_map_of_mem hz))
    · have : t = (u, q) := by simpa using ht
      subst this
      exact i3.tmp _ (.head _)
  -- what is left at the end
  have fin : ∀ s', (∃ G, InvF X' G [none] ((D, CV.lst (ρ n)) :: γ n) [(u, q)] s' ∧ G I = none) → compPost (model c.prog c.w) X.A (fun _ _ => False) use Q (.ref D) s3.heap.objs.size (.ok .next) s' := by
    rintro s' ⟨G, y, gI⟩
    obtain ⟨m, hn, _⟩ := y.loc
    have gC : G s3.heap.objs.size = none := eL ▸ y.nL.1
    have st : ∃ h tk, s' = { s3 with heap := h, toks := tk } := by
      obtain ⟨h, tk, e⟩ := y.st; rw [e0] at e; exact ⟨h, tk, e⟩
    obtain ⟨h', tk, rfl⟩ := st
    obtain ⟨dI1, dI2, dI3, dI4⟩ := i3.cell (I, CV.st (P 0)) (.tail _ (.head _))
    have pf : PostF F s3 G { s3 with heap := h', toks := tk } (I :: ((D, CV.lst []) :: γ 0).map (·.1)) := by
      refine ⟨⟨h', tk, rfl⟩, eF ▸ y.le, fun a o e => y.on a o e, fun a o e n => ?_, fun a o e hm => ?_⟩
      · by_cases q : a = I
        · subst q; exact gI
        · have := y.fresh; rw [e0, eF] at this
          exact this a o ((Heap.hide_ne _ q).trans e) n
      · have := y.keep; rw [e0] at this
        have q : a ≠ I := fun q => hm (by rw [q]; exact .head _)
        exact this a o ((Heap.hide_ne _ q).trans e) (by rw [eW]; exact fun h => hm (.tail _ h))
    have i3' : InvF X F vs ((D, CV.lst []) :: γ 0) ((u, q) :: ts) s3 := by
      have nd := i3.nd
      simp only [List.map_cons, List.nodup_cons, List.mem_cons, not_or] at nd
      refine ⟨i3.st, i3.on, i3.le, i3.fresh, i3.keep, i3.wr, i3.loc, i3.nL, fun z hz => ?_, ?_, i3.tmp⟩
      · rcases List.mem_cons.mp hz with rfl | hz
        · exact i3.cell _ (.head _)
        · exact i3.cell _ (.tail _ (.tail _ hz))
      · rw [List.map_cons, List.nodup_cons]; exact ⟨nd.1.2, nd.2.2⟩
    have z := i3'.postC (cs1 := (D, CV.lst (ρ n)) :: γ n) pf (fun a ha => by
      rcases List.mem_cons.mp ha with rfl | ha
      · exact .inr ⟨dI3, hW, dI4.resolve_left hW⟩
      · exact .inl ha) (by simp [hγ n]) fun z hz => (y.cell z hz).1
    have nW : ¬ X.W D := fun hw => by
      have := (i2.wr D hw)
      obtain ⟨_, o, ho⟩ := this
      exact absurd (Heap.lt_size ho) (by rw [hDs]; exact Nat.lt_irrefl _)
    have nWC : ¬ X.W s3.heap.objs.size := i3.fresh_not_W
    have hn' : h'.Ns s3.heap.objs.size m := eL ▸ hn
    have hoC : ∃ o, h'.get? s3.heap.objs.size = some o := by obtain ⟨o, _, _, ho, _⟩ := hn'; exact ⟨o, ho⟩
    obtain ⟨o, ho⟩ := hoC
    have nL : s3.heap.objs.size ≠ X.env.locals := fun q => by
      obtain ⟨m', hn, _⟩ := i3.loc
      exact absurd hn.lt (by rw [← q]; exact Nat.lt_irrefl _)
    have nm : s3.heap.objs.size ∉ ((D, CV.lst (ρ n)) :: γ n).map (·.1) := fun hm => by
      obtain ⟨z', hz', e⟩ := List.mem_map.mp hm
      exact (y.cell z' hz').2.2.1 (by rw [e, eL])
    exact hfin _ D o _ m hn' ((z.sub fun _ h => .tail _ h).addCell ho gC nL (Heap.get?_none_of_le (Nat.le_of_lt i3.big)) nm).inv nWC nW
  have loop : ∀ s', Inv X' [none] ((D, CV.lst []) :: (I, CV.st (P 0)) :: γ 0) [(u, q)] s' → codeAny (model c.prog c.w) X.A (.compLoop (.ListComp elt [⟨.Name x px, iter, ifs, 0⟩] scope pos) 0 (.ref I) (.ref D) (compEnvC scope clo s3.heap.objs.size X.env))
      (compPost (model c.prog c.w) X.A (fun _ _ => False) use Q (.ref D) s3.heap.objs.size) s' := by
    intro s' hs'
    refine codeAny_compLoop_tests (fun m s => ∃ i, i ≤ n ∧ m = n - i ∧ Inv X' [none] ((D, CV.lst (ρ i)) :: (I, CV.st (P i)) :: γ i) [(u, q)] s) (fun m s h => ?_) n ⟨0, Nat.zero_le _, rfl, by rw [hρ]; exact hs'⟩
    obtain ⟨i, hi, rfl, G, y⟩ := h
    have hz := y.tmp _ (.head _)
    obtain ⟨⟨o, ho, hp⟩, c2, c3, c4⟩ := y.cell _ (.tail _ (.head _))
    rcases Nat.lt_or_ge i n with hlt | hge
    · refine wpAny_mono (hit.next i s G _ hlt hz y.on ⟨o, ho, hp⟩ fun v h' tk hv hI kp => ?_) (fun _ _ h => h) fun _ _ f => f.elim
      have y1 : InvF X' G [none] ((D, CV.lst (ρ i)) :: (I, CV.st (P (i + 1))) :: γ i) [(u, q)] { s with heap := h', toks := tk } :=
        y.setCell (.tail .head) (Fz.le_refl _) (fun b ob e => kp b ob (fun q => by have c2' : G I = none := c2; rw [q, c2'] at e; cases e) (y.on b ob e)) (fun _ _ _ n => n) kp hI
      dsimp only
      obtain ⟨b, htest, hcase⟩ := ht i hlt X' eA (by rw [eE]; rfl) (D, CV.lst (ρ i)) (I, CV.st (P (i + 1)))
      have as : wpAny (model c.prog c.w) X.A (assign (.Name x px) (compEnvC scope clo s3.heap.objs.size X.env) v) (fun _ s2 => Inv X' [some (item i)] ((D, CV.lst (ρ i)) :: (I, CV.st (P (i + 1))) :: γ i) [(u, q)] s2) (fun _ _ => False) { s with heap := h', toks := tk } := by
        rw [← eE]
        exact wpAny_assign_Name (st_local .head (y1.push _ _ hv).inv)
      refine wpAny_mono as (fun _ s2 i2 => ?_) fun _ _ f => f.elim
      have tst : wpAny (model c.prog c.w) X.A (forIn ifs true fun c r => if r = true then do let ok ← isTrue c (compEnvC scope clo s3.heap.objs.size X.env) (eval c (compEnvC scope clo s3.heap.objs.size X.env)); pure (ForInStep.yield ok) else pure (ForInStep.yield r))
          (fun ok s3 => ok = b ∧ Inv X' [some (item i)] ((D, CV.lst (ρ i)) :: (I, CV.st (P (i + 1))) :: γ i) [(u, q)] s3) (fun _ _ => False) s2 := by
        rcases htest with ⟨e1, e2⟩ | ⟨t, e1, hte⟩
        · rw [e1]; exact tests_none ⟨e2.symm, i2⟩
        · rw [e1]; refine tests_one' ?_
          rw [← eE, ← eA]
          exact hte _ s2 i2
      refine wpAny_mono tst (fun ok s3' ⟨eb, i3'⟩ => ?_) fun _ _ f => f.elim
      subst eb
      rcases hcase with ⟨rfl, eγ, eρ⟩ | ⟨rfl, p, eρ, hev⟩
      · rw [if_neg (by decide)]
        exact ⟨n - (i + 1), by omega, i + 1, hlt, rfl, by rw [eγ, eρ]; exact i3'.fsub (.drop .nil)⟩
      · rw [if_pos rfl]
        have ev := hev _ s3' i3'
        rw [eA, eE] at ev
        refine wpAny_mono ev (fun v4 s4 ⟨H, i4⟩ => ?_) fun _ _ f => f.elim
        obtain ⟨⟨us, hL, hu⟩, d2, d3, d4⟩ := i4.cell _ (.head _)
        refine wpAny_list_append_plain hL (fun h5 hL5 sb => ?_) (by rw [hu.size, sizeLine_eq]; have := hlen i hlt; omega)
        have i5 := i4.setCell (.head : CsSet _ D (.lst (ρ i)) (.lst (ρ (i + 1))) _) (t := s4.toks) (Fz.le_refl _) (fun b ob e => sb.extBut b ob (fun q => by have d2' : H D = none := d2; rw [q, d2'] at e; cases e) (i4.on b ob e)) (fun _ _ _ n => n) (fun b ob hb e => sb.extBut b ob hb e)
          ⟨us.push v4, hL5, by rw [Array.toList_push, eρ]; exact hu.append (.cons (i4.tmp _ (.head _)) .nil)⟩
        exact ⟨n - (i + 1), by omega, i + 1, hlt, rfl, (i5.inv.pop).fsub (.drop .nil)⟩
    · have : i = n := by omega
      subst this
      refine wpAny_mono (hit.stop s G _ hz y.on ⟨o, ho, hp⟩ fun h' tk kp => ?_) (fun _ _ h => h) fun _ _ f => f.elim
      have c2' : G I = none := c2
      have nWI : ¬ X'.W I := fun h => (memW I h).1 rfl
      refine fin _ ⟨G, ?_, c2'⟩
      have yp : InvF X' G [none] ((I, CV.st (P i)) :: (D, CV.lst (ρ i)) :: γ i) [(u, q)] s := by
        have nd := y.nd
        simp only [List.map_cons, List.nodup_cons, List.mem_cons, not_or] at nd
        refine ⟨y.st, y.on, y.le, y.fresh, y.keep, y.wr, y.loc, y.nL, fun z hz => ?_, ?_, y.tmp⟩
        · rcases List.mem_cons.mp hz with rfl | hz
          · exact y.cell _ (.tail _ (.head _))
          · rcases List.mem_cons.mp hz with rfl | hz
            · exact y.cell _ (.head _)
            · exact y.cell _ (.tail _ (.tail _ hz))
        · simp only [List.map_cons, List.nodup_cons, List.mem_cons, not_or]; exact ⟨⟨fun q => nd.1.1 q.symm, nd.2.1⟩, nd.1.2, nd.2.2⟩
      exact yp.vanish nWI kp
  have st0 : ∃ o, h₁.get? I = some o ∧ P 0 o := by
    obtain ⟨o, ho, hp⟩ := (i3.cell _ (.tail _ (.head _))).1
    exact ⟨o, kp _ _ ho, hp⟩
  exact codeAny_compStart_list (loop _ j0) (hself 0 _ _ _ st0 (loop _ j0))
theorem ev_comp {scope : Scope} {x : Str} {gl' : List Str} {cl' clo : List (Str × Addr)} {elt iter : Expr} {ifs : List Expr} {px pos : Pos} {n : Nat} {item : Nat → PV} (γ : Nat → Cells) (ρ : Nat → List PV) (ok : CompOk X scope x gl' cl' clo) (h : SrcR X vs cs iter n item (γ 0))
    (hρ : ρ 0 = []) (hlen : ∀ i, i < n → (ρ i).length ≤ 1000000) (hγ : ∀ i, (γ i).map (·.1) = (γ 0).map (·.1)) (ht : CTurns X scope clo x gl' cl' n item γ ρ ifs elt) (hs : ∀ v, foldedSetIterable iter X.env v = pure v := by intro _; rfl) :
    Ev X vs cs (.ListComp elt [⟨.Name x px, iter, ifs, 0⟩] scope pos) (.list (ρ n)) (γ n) := fun ts s i => by
  rw [eval_ListComp]
  show wpAny _ X.A (comprehension (.ListComp elt [⟨.Name x px, iter, ifs, 0⟩] scope pos) scope X.env _ (newList []) false (eval iter X.env) none) _ _ s
  refine comp_core γ ρ ok h hρ hlen hγ ht hs (fun C D o s' m hn ⟨G, y⟩ hC hD => ?_) i
  refine ⟨m, hn, fun h'' sb => ?_⟩
  obtain ⟨G2, le, w1, w2⟩ := (y.vanish hC (h := h'') (t := s'.toks) sb.extBut).freeze hD
  exact ⟨G2, w1.push _ _ w2⟩
/-- y = [.. for ..] -/
theorem ex_assign_comp {scope : Scope} {x y : Str} {gl' : List Str} {cl' clo : List (Str × Addr)} {elt iter : Expr} {ifs : List Expr} {px py pos spos : Pos} {n : Nat} {item : Nat → PV} {rest : List Stmt} (γ : Nat → Cells) (ρ : Nat → List PV) (ok : CompOk X scope x gl' cl' clo) (h : SrcR X vs cs iter n item (γ 0))
    (hρ : ρ 0 = []) (hlen : ∀ i, i < n → (ρ i).length ≤ 1000000) (hγ : ∀ i, (γ i).map (·.1) = (γ 0).map (·.1)) (ht : CTurns X scope clo x gl' cl' n item γ ρ ifs elt) (g : SetAt ks vs y (.list (ρ n)) vs') (r : Ex X vs' (γ n) rest N R)
    (hsw : swapsWith (.ListComp elt [⟨.Name x px, iter, ifs, 0⟩] scope pos) (some (.Name y py)) spos.line X.env = pure true) (hs : ∀ v, foldedSetIterable iter X.env v = pure v := by intro _; rfl) :
    Ex X vs cs (.Assign [.Name y py] (.ListComp elt [⟨.Name x px, iter, ifs, 0⟩] scope pos) spos :: rest) N R := ex_cons fun ts s i => by
  rw [exec_Assign_Name_used _ _ _ _ hsw]
  refine wpAny_bind (wpAny_standAt (wpAny_bind ?_))
  show wpAny _ X.A (do let _ ← comprehension (.ListComp elt [⟨.Name x px, iter, ifs, 0⟩] scope pos) scope X.env _ (newList []) false (eval iter X.env) (some (assign (.Name y py) X.env))) _ _ s
  refine wpAny_bind (wm (comp_core (Q := fun _ s' => Inv X vs' (γ n) ts s') γ ρ ok h hρ hlen hγ ht hs (fun C D o s' m hn ⟨G, y⟩ hC hD => ?_) i) fun _ s' hq => wpAny_pure (wpAny_pure ⟨_, _, hq, r⟩))
  have yp : InvF X G vs ((D, CV.lst (ρ n)) :: (C, CV.st (· = o)) :: γ n) ts s' := by
    have nd := y.nd
    simp only [List.map_cons, List.nodup_cons, List.mem_cons, not_or] at nd
    refine ⟨y.st, y.on, y.le, y.fresh, y.keep, y.wr, y.loc, y.nL, fun z hz => ?_, ?_, y.tmp⟩
    · rcases List.mem_cons.mp hz with rfl | hz
      · exact y.cell _ (.tail _ (.head _))
      · rcases List.mem_cons.mp hz with rfl | hz
        · exact y.cell _ (.head _)
        · exact y.cell _ (.tail _ (.tail _ hz))
    · simp only [List.map_cons, List.nodup_cons, List.mem_cons, not_or]; exact ⟨⟨fun q => nd.1.1 q.symm, nd.2.1⟩, nd.1.2, nd.2.2⟩
  obtain ⟨G2, le, w1, w2⟩ := yp.freeze hD
  refine wpAny_assign_Name (wm (st_local g (w1.push _ _ w2).inv) fun _ s2 ⟨H, i2⟩ => ?_)
  obtain ⟨⟨o', ho', e'⟩, _⟩ := i2.cell _ (.head _)
  obtain ⟨⟨o2, ho2, e2⟩, _⟩ := y.cell _ (.head _)
  have e'' : o' = o := e'
  have e2' : o2 = o := e2
  subst e'' e2'
  exact ⟨m, hn.at' fun ob e => by
    have : ob = o2 := by have := e.symm.trans ho2; cases this; rfl
    rw [this]; exact ho', fun h'' sb => (i2.vanish hC (h := h'') (t := s2.toks) sb.extBut).inv⟩
end
end Mine

end
section
open PySem PySem.W PyProof.Rows
namespace Mine
open PySem PySem.Calls PySem.W PyProof.Rows PySem.Builtin.Str

section
variable {c : Cx} {k : Nat} {ks gl : List Str} {cl : List (Str × Addr)} {X : Fx c k ks gl cl} {F : Fz} {vs vs1 vs' : List (Option PV)} {cs cs1 cs2 cs3 cs4 : Cells} {ts ts' : List (Value × PV)} {s : Shared}
  {N : List (Option PV) → Cells → Prop} {R : PV → Cells → Prop}

theorem ev_conv {e : Expr} {p q : PV} (h : Ev X vs cs e p cs1) (e' : p = q) : Ev X vs cs e q cs1 := e' ▸ h
theorem et_conv {e : Expr} {p q : Bool} (h : ET X vs cs e p cs1) (e' : p = q) : ET X vs cs e q cs1 := e' ▸ h
theorem op_conv {op : Operator} {p q r r' : PV} (h : OpR X op p q r) (e : r = r') : OpR X op p q r' := e ▸ h
theorem fp_conv {f : Value} {ps ps' : List PV} {r r' : PV} {j : Nat} (h : FnP c j f ps r) (e : ps = ps') (e' : r = r') : FnP c j f ps' r' := e ▸ e' ▸ h
theorem cp_eqb {a b : Bool} : CpR X .Eq (.bool a) (.bool b) (a == b) := fun _ _ _ _ u v ⟨F, x⟩ => by
  have h1 := isBool (x.tmp _ (.head _)); have h2 := isBool (x.tmp _ (.tail _ (.head _)))
  simp only at h1 h2; subst h1 h2
  exact eq_bool ⟨rfl, F, x⟩

/-- an own list that is handed on -/
theorem ev_frz {e : Expr} {a : Addr} {ps : List PV} (h : Ev X vs cs e (.raw (.ref a)) ((a, .lst ps) :: cs1)) (hW : ¬ X.W a) : Ev X vs cs e (.list ps) cs1 := fun ts s i =>
  wm (h ts s i) fun v s1 ⟨F, i1⟩ => by
    have e := i1.tmp _ (.head _)
    simp only at e
    cases e
    obtain ⟨G, le, j, g⟩ := i1.freeze hW
    exact ⟨G, j.pop.push _ _ g⟩

theorem strs_of {ls : List (List Nat)} : ∀ {us : List Value}, Iss F (ls.map PV.str) us → ∃ l : List (Str × Tok), us = strValues l ∧ l.map (·.1) = ls.map mkS := by
  induction ls with
  | nil => intro us h; cases h; exact ⟨[], rfl, rfl⟩
  | cons x ls ih =>
    intro us h
    cases h with
    | cons h1 h2 =>
      cases h1
      obtain ⟨l, rfl, e⟩ := ih h2
      exact ⟨(mkS x, _) :: l, rfl, by simp only [List.map_cons, e]⟩

theorem bi_join {sep : List Nat} {ls : List (List Nat)} (hs : sep.length ≤ 16) (hl : (ls.map (·.length)).sum + ls.length ≤ 1048576) {r : List Nat} (hr : Txt.join ⟨sep.toArray⟩ (ls.map mkS) = mkS r) : BiR X "str.join" [.str sep, .list (ls.map PV.str)] (.str r) := fun vs cs ts s us hl' ⟨F, i⟩ => by
  obtain ⟨u, v, rfl⟩ := args2 hl'
  obtain ⟨t, rfl⟩ := isStr (i.tmp (u, .str sep) (.head _))
  obtain ⟨a, xs, n, rfl, e, hi⟩ := isList (i.tmp (v, .list _) (.tail _ (.head _)))
  obtain ⟨l, h1, h2⟩ := strs_of hi
  have hxs : xs = (strValues l).toArray := by apply Array.toList_inj.mp; rw [h1]
  subst hxs
  refine SC.join (IsList_of (i.on _ _ e)) h2 (joinOk_of_weight ?_ (by rw [slen]; exact hs)) fun t' tk => ?_
  · rw [List.length_map, List.map_map]
    have : ((fun x : Str => x.length) ∘ mkS) = fun x : List Nat => x.length := by funext x; exact slen x
    rw [show ((fun x : Str => Str.length x) ∘ mkS) = fun x : List Nat => x.length from this]
    exact hl
  · rw [hr]
    exact i.pop.pop.tok.inv.str

theorem bi_sorted2 {a b : Int} : BiR X "sorted" [.list [.int a, .int b]] (.list [.int (if b < a then b else a), .int (if b < a then a else b)]) := fun vs cs ts s us hl ⟨F, i⟩ => by
  obtain ⟨u, rfl⟩ := args1 hl
  obtain ⟨p, xs, n, rfl, e, hi⟩ := isList (i.tmp _ (.head _))
  have hI : IntsAre xs.toList [a, b] := intsAre_of (F := F) (ns := [a, b]) hi
  obtain ⟨m, news, Fh, Nw, k1, k2⟩ := i.pop.viaN
  refine sorted_N Fh Nw (l := p) (vs := xs.toList) (by rw [Array.toArray_toList]; exact IsList_of (i.on _ _ e)) hI (by have := IntsAre.length hI; simp at this; rw [Array.length_toList, this]; decide) fun h' vs' ns' e' F' N' a1 a2 a3 => ?_
  have hq : ns' = [if b < a then b else a, if b < a then a else b] := by
    have hl := a2.length_eq
    match ns', hl with
    | [x, y], _ =>
      have h1 : x ≤ y := by simpa using a3
      have hx : x ∈ [a, b] := a2.mem_iff.mp (.head _)
      have hs := a2
      rcases List.mem_cons.mp hx with rfl | hx
      · have : [y].Perm [b] := (List.perm_cons _).mp hs
        have : y = b := by simpa using this
        subst this
        by_cases h : y < x
        · lia
        · simp [h]
      · have hx : x = b := by simpa using hx
        subst hx
        have : [x, y].Perm [x, a] := hs.trans (List.Perm.swap _ _ _)
        have : [y].Perm [a] := (List.perm_cons _).mp this
        have : y = a := by simpa using this
        subst this
        by_cases h : x < y
        · simp [h]
        · have : x = y := by lia
          subst this; simp
  subst hq
  have le := Fz.le_add (o := seqObj "list" vs'.toArray e') (i.new (a := s.heap.objs.size + 1) (Nat.le_succ _))
  have y := k2 h' s.toks _ _ F' N' (Nat.le_succ _)
  refine ⟨_, y.push _ _ (.list (n := e') (vs := vs'.toArray) Fz.add_self ?_)⟩
  show Iss _ _ vs'
  generalize F.add (s.heap.objs.size + 1) (seqObj "list" vs'.toArray e') = G
  cases a1 with
  | cons _ _ r => cases r with
    | cons _ _ r => cases r with
      | nil => exact .cons .int (.cons .int .nil)

/-- unpacking a list -/
theorem assign_tupleL {tg : List Expr} {kk : Nat} {pos : Pos} {ps : List PV} {v : Value} (g : StVs X vs cs tg ps vs' cs1) {A : Around} {E : Value → Shared → Prop} (hA : A.handled = none) (i : Inv X vs cs ((v, .list ps) :: ts) s) :
    wpAny (model c.prog c.w) A (assign (.Tuple tg kk pos) X.env v) (fun _ s' => Inv X vs' cs1 ts s') E s := by
  obtain ⟨F, i⟩ := i
  obtain ⟨a, us, n, rfl, e, hi⟩ := isList (i.tmp _ (.head _))
  obtain ⟨h1, h2⟩ := stvs_each g
  rw [assign_Tuple]
  refine wpAny_bind (wpAny_standAt ?_)
  unfold unpack
  rw [show (assignEach tg X.env).length = us.size by rw [h1, hi.size], h2]
  refine wpAny_bind (wpAny_holding (kun_itemsOf hA (IsList_of (i.on _ _ e)) fun h' ext => ?_))
  have kp : Keep s.heap h' := fun b o e => ext b o (Nat.ne_of_lt (Heap.lt_size e)) e
  have j := (i.keeps (t := s.toks) kp)
  have hl : us.toList.length = ps.length := by rw [hi.length]
  have push : ∀ (qs : List PV) (ws : List Value) {ts : List (Value × PV)}, Iss F qs ws → InvF X F vs cs ts { s with heap := h', toks := s.toks } → InvF X F vs cs (ws.zip qs ++ ts) { s with heap := h', toks := s.toks } := by
    intro qs ws ts hq x
    refine ⟨x.st, x.on, x.le, x.fresh, x.keep, x.wr, x.loc, x.nL, x.cell, x.nd, fun t ht => ?_⟩
    rcases List.mem_append.mp ht with ht | ht
    · exact iss_mem hq ht
    · exact x.tmp t ht
  exact wm (stvs_run g (us := us.toList) hl (fun t ht => List.mem_append_left _ ht) ⟨F, push ps us.toList hi j.pop⟩) fun _ s' i' => i'.popN
theorem ex_unpackL {tg : List Expr} {kk : Nat} {tpos pos : Pos} {e : Expr} {ps : List PV} {rest : List Stmt} (he : Ev X vs cs e (.list ps) cs1) (g : StVs X vs cs1 tg ps vs' cs2) (r : Ex X vs' cs2 rest N R)
    (h1 : swapsWithSole [.Tuple tg kk tpos] e pos.line X.env = pure false := by rfl) (h2 : swappedStores [.Tuple tg kk tpos] e X.env = pure none := by rfl) : Ex X vs cs (.Assign [.Tuple tg kk tpos] e pos :: rest) N R :=
  ex_cons fun ts s i => Assign_Tuple (wm (he ts s i) fun v s1 i1 => wm (assign_tupleL g X.rm.hd i1) fun _ s2 i2 => ⟨vs', cs2, i2, r⟩) h1 h2

/-! lists of texts -/
abbrev Low (l : List Nat) : Prop := ∀ n ∈ l, n < 128
theorem t_canLayAll0 : ∀ ns : List (List Nat), (∀ l ∈ ns, Low l) → PyData.canLayAll0 ((ns.map mkS).map PyData.str) = true
  | [], _ => rfl
  | x :: r, h => by
    have h1 : PyData.strOk (mkS x) = true := by
      unfold PyData.strOk mkS
      rw [List.all_toArray, List.all_eq_true]
      intro n hn
      have := h x (.head _) n hn
      exact decide_eq_true (by lia)
    have h2 := t_canLayAll0 r fun l hl => h l (.tail _ hl)
    simp only [List.map_cons, PyData.canLayAll0, PyData.canLay0, h1, h2]; rfl
theorem t_depthAll : ∀ ns : List Str, PyData.depthAll (ns.map PyData.str) = 0
  | [] => rfl
  | _ :: r => by simp [PyData.depthAll, PyData.depth, t_depthAll r]
theorem t_shaped (ns : List (List Nat)) (h : ∀ l ∈ ns, Low l) : SeqAt.shaped (.list ((ns.map mkS).map PyData.str)) = true := by
  simp only [SeqAt.shaped, PyData.canLay0, PyData.depth, t_canLayAll0 ns h, t_depthAll]; rfl
theorem t_sameAll : ∀ ns ms : List (List Nat), PySem.Spec.sameAll ((ns.map mkS).map PyData.str) ((ms.map mkS).map PyData.str) = decide (ns = ms)
  | [], [] => by simp [PySem.Spec.sameAll]
  | [], _ :: _ => by simp [PySem.Spec.sameAll]
  | _ :: _, [] => by simp [PySem.Spec.sameAll]
  | a :: r, b :: t => by
    simp only [List.map_cons, PySem.Spec.sameAll, PySem.Spec.same, t_sameAll r t]
    rw [show (mkS a == mkS b) = decide (a = b) from str_beq a b]
    by_cases h : a = b <;> by_cases h' : r = t <;> simp [h, h']
theorem t_carried : ∀ l : List (Str × Tok), CarriedAll (strValues l) ((l.map (·.1)).map PyData.str)
  | [] => .nil
  | (x, t) :: r => .cons (.str x t) (t_carried r)
theorem cp_eql {a b : List (List Nat)} (hk : 8 ≤ k) (ha : ∀ l ∈ a, Low l) (hb : ∀ l ∈ b, Low l) : CpR X .Eq (.list (a.map PV.str)) (.list (b.map PV.str)) (decide (a = b)) := fun vs cs ts s u v ⟨F, x⟩ => by
  obtain ⟨p, us, n, rfl, e, hi⟩ := isList (x.tmp _ (.tail _ (.head _)))
  obtain ⟨q, us', n', rfl, e', hi'⟩ := isList (x.tmp _ (.head _))
  obtain ⟨l, h1, h2⟩ := strs_of hi
  obtain ⟨l', h1', h2'⟩ := strs_of hi'
  have y1 : us = (strValues l).toArray := by apply Array.toList_inj.mp; rw [h1]
  have y2 : us' = (strValues l').toArray := by apply Array.toList_inj.mp; rw [h1']
  subst y1 y2
  refine eq_dataH_same (reads_newData (IsList_of (x.on _ _ e)) (t_carried l)) (reads_newData (IsList_of (x.on _ _ e')) (t_carried l')) (by rw [h2]; exact t_shaped _ ha) (by rw [h2']; exact t_shaped _ hb) (by have := X.rm.un; lia)
    (SeqAt.noMix_of_shape (.list .str) rfl _ _ (list_map_has fun _ => rfl) (list_map_has fun _ => rfl)) ⟨?_, F, x⟩
  rw [h2, h2']; simp only [PySem.Spec.same]; rw [t_sameAll]
theorem cp_nel {a b : List (List Nat)} (hk : 8 ≤ k) (ha : ∀ l ∈ a, Low l) (hb : ∀ l ∈ b, Low l) : CpR X .NotEq (.list (a.map PV.str)) (.list (b.map PV.str)) (!decide (a = b)) := fun vs cs ts s u v ⟨F, x⟩ => by
  obtain ⟨p, us, n, rfl, e, hi⟩ := isList (x.tmp _ (.tail _ (.head _)))
  obtain ⟨q, us', n', rfl, e', hi'⟩ := isList (x.tmp _ (.head _))
  obtain ⟨l, h1, h2⟩ := strs_of hi
  obtain ⟨l', h1', h2'⟩ := strs_of hi'
  have y1 : us = (strValues l).toArray := by apply Array.toList_inj.mp; rw [h1]
  have y2 : us' = (strValues l').toArray := by apply Array.toList_inj.mp; rw [h1']
  subst y1 y2
  refine ne_dataH_same (reads_newData (IsList_of (x.on _ _ e)) (t_carried l)) (reads_newData (IsList_of (x.on _ _ e')) (t_carried l')) (by rw [h2]; exact t_shaped _ ha) (by rw [h2']; exact t_shaped _ hb) (by have := X.rm.un; lia)
    (SeqAt.noMix_of_shape (.list .str) rfl _ _ (list_map_has fun _ => rfl) (list_map_has fun _ => rfl)) ⟨?_, F, x⟩
  rw [h2, h2']; simp only [PySem.Spec.same]; rw [t_sameAll]
end
end Mine

end
section
open PySem PySem.W PyProof.Rows
namespace Mine
open PySem PySem.Calls PySem.W PyProof.Rows PySem.Builtin.Str

section
variable {c : Cx} {k : Nat} {ks gl : List Str} {cl : List (Str × Addr)} {X : Fx c k ks gl cl} {F : Fz} {vs vs1 vs2 vs' : List (Option PV)} {cs cs1 cs2 cs3 cs4 : Cells} {ts ts' : List (Value × PV)} {s : Shared}
  {N : List (Option PV) → Cells → Prop} {R : PV → Cells → Prop}

theorem swap2 (X : Fx c k ks gl cl) {x y : Str} {p1 p2 tpos epos : Pos} {kk kk' : Nat} {e1 e2 : Expr} (hx : x ∈ ks) (hy : y ∈ ks) (hxy : [x, y].eraseDups = [x, y]) (hl : (p1.line == p2.line) = true)
    (hs : ([e1, e2].any fun | .Starred .. => true | _ => false) = false) (hf : [e1, e2].all (foldedForSure 8) = false) (hc : [e1, e2].all (constantsAlone 8) = false) :
    swappedStores [.Tuple [.Name x p1, .Name y p2] kk tpos] (.Tuple [e1, e2] kk' epos) X.env = pure (some [x, y]) := by
  have h1 := X.loc x hx; have h2 := X.loc y hy
  have hl' : (p2.line == p1.line) = true := by simpa using Eq.symm (by simpa using hl)
  have hb : X.env.blockKind = .function := by unfold Env.blockKind; rw [X.kind]; rfl
  unfold swappedStores
  simp only [hb, h1, h2, hs, hf, hc, hxy, hl', Expr.pos, List.head?_cons, Option.map_some, Option.getD_some, List.filterMap_cons, List.filterMap_nil, List.length_cons, List.length_nil, beq_self_eq_true, Bool.true_and, Bool.and_true, if_true]
  refine (if_neg (by decide)).trans ?_
  refine (if_neg fun h => Bool.noConfusion (hs.symm.trans h)).trans ?_
  rfl
/-- an if whose branches meet again -/
theorem ex_ifj {t : Expr} {b : Bool} {body orelse rest : List Stmt} {pos : Pos} (N' : List (Option PV) → Cells → Prop) (h : ET X vs cs t b cs1) (h1 : b = true → Ex X vs cs1 body N' R) (h2 : b = false → Ex X vs cs1 orelse N' R) (hr : ∀ vs cs, N' vs cs → Ex X vs cs rest N R) : Ex X vs cs (.If t body orelse pos :: rest) N R :=
  ex_if h (fun e => ex_seq (h1 e) hr) (fun e => ex_seq (h2 e) hr)
theorem mul_okL {a b : Int} (h : a.natAbs < 18446744073709551616) : IntMulOk a b := IntMulOk.of_left (intBits_le_iff.mpr (by simpa using h))
theorem mul_okR {a b : Int} (h : b.natAbs < 18446744073709551616) : IntMulOk a b := IntMulOk.of_right (intBits_le_iff.mpr (by simpa using h))
theorem ev_drop {e : Expr} {p : PV} {z : Addr × CV} (h : Ev X vs cs e p (z :: cs1)) : Ev X vs cs e p cs1 := fun ts s i => wm (h ts s i) fun v s1 i1 => i1.dropCell
end
end Mine

end
section
open PySem PySem.W PyProof.Rows
namespace Mine
open PySem PySem.Calls PySem.W PyProof.Rows PySem.Builtin.Str

section
variable {c : Cx} {k : Nat} {ks gl : List Str} {cl : List (Str × Addr)} {X : Fx c k ks gl cl} {F : Fz} {vs vs1 vs2 vs' : List (Option PV)} {cs cs1 cs2 cs3 cs4 : Cells} {ts ts' : List (Value × PV)} {s : Shared}
  {N : List (Option PV) → Cells → Prop} {R : PV → Cells → Prop}

theorem It.conv {A : Around} {I : Addr} {n : Nat} {P : Nat → Obj → Prop} {item item' : Nat → PV} {Z : Fz → Prop} (h : It c A I n P item Z) (e : ∀ i, i < n → item i = item' i) : It c A I n P item' Z :=
  ⟨fun i s F Q hi hz on ho hq => h.next i s F Q hi hz on ho fun v h' tk hv => hq v h' tk (e i hi ▸ hv), h.stop, h.own⟩
theorem SrcR.conv {e : Expr} {n : Nat} {item item' : Nat → PV} (h : SrcR X vs cs e n item cs1) (eq : ∀ i, i < n → item i = item' i) : SrcR X vs cs e n item' cs1 := fun ts s i =>
  wm (h ts s i) fun xv s1 h1 => wm h1 fun it s2 ⟨I, P, u, q, e1, hit, r⟩ => ⟨I, P, u, q, e1, hit.conv eq, r⟩
end
end Mine

end
section
open PySem PySem.W PyProof.Rows
namespace Mine
open PySem PySem.Calls PySem.W PyProof.Rows PySem.Builtin.Str

section
variable {c : Cx}
/-- what a call leaves when it hands back a list that nobody else knows -/
noncomputable def FnNew (c : Cx) (k : Nat) (f : Value) (Q : Fz → Prop) (ps : List PV) (r : List PV) : Prop :=
  ∀ A s F us, Rm k A → CF c F → F.on s.heap → Iss F ps us → Q F →
    codeAny (model c.prog c.w) A (.call f ⟨us, []⟩) (fun res s' => ∃ a G, res = .ok (.ret (.ref a)) ∧ PostF F s G s' [] ∧ s.heap.get? a = none ∧ G a = none ∧ CellAt G s'.heap (a, .lst r)) s
/-- what a call leaves that turns nothing and hands back a value; Q: what must be known ahead -/
noncomputable def FnQ (c : Cx) (k : Nat) (f : Value) (Q : Fz → Prop) (ps : List PV) (r : PV) : Prop :=
  ∀ A s F us, Rm k A → CF c F → F.on s.heap → Iss F ps us → Q F →
    codeAny (model c.prog c.w) A (.call f ⟨us, []⟩) (fun res s' => ∃ v G, res = .ok (.ret v) ∧ PostF F s G s' [] ∧ Is G r v) s

theorem gen_of_body {k : Nat} {f : Addr} {pn rest gl : List Str} {body : List Stmt} {ps : List PV} {Q : Fz → Prop} {R : PV → Cells → Prop} (d : DefOk c f pn rest gl body) (hl : pn.length = ps.length)
    (h : ∀ X : Fx c k (pn ++ rest) gl [], (∀ a, ¬ X.W a) → Q X.F0 → Ex X (frame0 ps rest) [] body (fun _ _ => False) R) :
    ∀ A s F us, Rm (k + 1) A → CF c F → F.on s.heap → Iss F ps us → Q F →
    codeAny (model c.prog c.w) A (.call (.ref f) ⟨us, []⟩) (fun res s' => ∃ v p cs' G, res = .ok (.ret v) ∧ PostF F s G s' [] ∧ R p cs' ∧ Is G p v ∧ ∀ z ∈ cs', CellAt G s'.heap z ∧ G z.1 = none ∧ s.heap.get? z.1 = none) s := by
  intro A s F us rm cf on hi hq
  obtain ⟨o, fd, ho, hd, hb, hcode, hg, hbl, hcl, hbind, hcell, hloc, hgl, hco, hgen, hkind⟩ := d.h
  have lu : pn.length = us.length := hl.trans hi.length
  have inK := cf.inK on
  have T := cf.top _ on
  refine codeAny_call_def (fd := fd) (body := body) (binds := pn.zip us) rm.lt (inK _ _ ho) hd T.nolimit (codeRec_of inK hcode) hb (BindsTo.of_eq (hbind us lu.symm)) hcell
    (fun x hx => hloc _ (List.mem_append_left _ (List.of_mem_zip hx).1)) (fun h₀ hns hk => ?_) hco hgen hkind
  let X : Fx c k (pn ++ rest) gl [] := {
    A := A.deeper (callEnv fd s.heap.objs.size f), env := callEnv fd s.heap.objs.size f, s0 := s, F0 := F, W := fun _ => False
    rm := rm.deeper, cf := cf, kind := hkind, glob := hg, blt := hbl, above := Nat.le_refl _, nd := d.nd, loc := hloc, gls := hgl, cls := fun _ hx => nomatch hx }
  have i0 : Inv X (frame0 ps rest) [] [] { s with heap := h₀, toks := s.toks + (pn.zip us).length } := by
    refine ⟨F, ⟨⟨h₀, _, rfl⟩, fun a o e => hk a o (on a o e), Fz.le_refl _, fun a o _ n => n, fun a o e _ => hk a o e, fun a ha => ha.elim, ⟨_, hns, fun x p g => ?_⟩, ⟨?_, fun hw => hw⟩, fun z hz => (nomatch hz), .nil, fun t ht => nomatch ht⟩⟩
    · obtain ⟨i, v, h1, h2, h3⟩ := frame0_get hl hi g
      exact ⟨v, lookup_rev_zip (List.nodup_append.mp d.nd).1 lu h1 h2, h3⟩
    · cases e : F s.heap.objs.size with
      | none => exact e
      | some o' => exact absurd (Heap.lt_size (on _ _ e)) (Nat.lt_irrefl _)
  refine wpAny_mono (h X (fun a h => h) hq [] _ i0) (fun fl s' q => ?_) fun _ _ q => q.elim
  cases fl with
  | next => obtain ⟨vs, cs'', hf, i⟩ := q; exact hf.elim
  | ret v =>
    obtain ⟨p, vs, cs'', hr, G, i⟩ := q
    refine ⟨v, p, cs'', G, rfl, ⟨i.st, i.le, i.on, i.fresh, fun a o e _ => i.keep a o e fun h => h⟩, hr, i.tmp _ (.head _), fun z hz => ?_⟩
    obtain ⟨c1, c2, c3, c4⟩ := i.cell z hz
    exact ⟨c1, c2, c4.resolve_left fun h => h⟩
  | _ => exact q.elim
theorem new_of_body {k : Nat} {f : Addr} {pn rest gl : List Str} {body : List Stmt} {ps r : List PV} {Q : Fz → Prop} (d : DefOk c f pn rest gl body) (hl : pn.length = ps.length)
    (h : ∀ X : Fx c k (pn ++ rest) gl [], (∀ a, ¬ X.W a) → Q X.F0 → Ex X (frame0 ps rest) [] body (fun _ _ => False) (fun p cs'' => ∃ a, p = .raw (.ref a) ∧ cs'' = [(a, .lst r)])) : FnNew c (k + 1) (.ref f) Q ps r :=
  fun A s F us rm cf on hi hq => codeAny_mono (gen_of_body d hl h A s F us rm cf on hi hq) fun res s' ⟨v, p, cs', G, e, hp, ⟨a, e1, e2⟩, hi, hz⟩ => by
    subst e1 e2
    have := hi.traw; subst this
    obtain ⟨h1, h2, h3⟩ := hz _ (.head _)
    exact ⟨a, G, e, hp, h3, h2, h1⟩
theorem fq_of_body {k : Nat} {f : Addr} {pn rest gl : List Str} {body : List Stmt} {ps : List PV} {r : PV} {Q : Fz → Prop} (d : DefOk c f pn rest gl body) (hl : pn.length = ps.length)
    (h : ∀ X : Fx c k (pn ++ rest) gl [], (∀ a, ¬ X.W a) → Q X.F0 → Ex X (frame0 ps rest) [] body (fun _ _ => False) (fun p cs'' => p = r)) : FnQ c (k + 1) (.ref f) Q ps r :=
  fun A s F us rm cf on hi hq => codeAny_mono (gen_of_body d hl h A s F us rm cf on hi hq) fun res s' ⟨v, p, cs', G, e, hp, e1, hi, hz⟩ => by
    subst e1
    exact ⟨v, G, e, hp, hi⟩
end

section
variable {c : Cx} {k : Nat} {ks gl : List Str} {cl : List (Str × Addr)} {X : Fx c k ks gl cl} {F : Fz} {vs vs1 vs2 : List (Option PV)} {cs cs1 cs2 cs3 cs4 : Cells} {ts ts' : List (Value × PV)} {s : Shared}
  {N : List (Option PV) → Cells → Prop} {R : PV → Cells → Prop}

theorem InvF.addC (x : InvF X F vs cs ts s) {a : Addr} {cv : CV} (hc : CellAt F s.heap (a, cv)) (hF : F a = none) (hL : a ≠ X.env.locals) (h0 : X.s0.heap.get? a = none) (hn : a ∉ cs.map (·.1)) : InvF X F vs ((a, cv) :: cs) ts s := by
  refine ⟨x.st, x.on, x.le, x.fresh, x.keep, x.wr, x.loc, x.nL, fun z hz => ?_, ?_, x.tmp⟩
  · rcases List.mem_cons.mp hz with rfl | hz
    · exact ⟨hc, hF, hL, .inr h0⟩
    · exact x.cell z hz
  · rw [List.map_cons, List.nodup_cons]; exact ⟨hn, x.nd⟩
/-- the place behind the heap's end is nobody's -/
theorem InvF.endNew (x : InvF X F vs cs ts s) {a : Addr} (ha : s.heap.objs.size ≤ a) : F a = none ∧ a ≠ X.env.locals ∧ X.s0.heap.get? a = none ∧ a ∉ cs.map (·.1) := by
  refine ⟨x.new ha, fun q => ?_, Heap.get?_none_of_le (Nat.le_trans (Nat.le_of_lt x.big) ha), fun hm => ?_⟩
  · obtain ⟨m, hn, _⟩ := x.loc
    exact absurd hn.lt (by rw [← q]; exact Nat.not_lt.mpr ha)
  · obtain ⟨z, hz, e⟩ := List.mem_map.mp hm
    obtain ⟨o, ho⟩ := (x.cell z hz).1.some
    exact absurd (Heap.lt_size ho) (by rw [e]; exact Nat.not_lt.mpr ha)
/-- own objects let by -/
theorem InvF.newOwn (x : InvF X F vs cs ts s) {G : Fz} {s' : Shared} (p : PostF F s G s' []) {a : Addr} {cv : CV} (hn : s.heap.get? a = none) (hG : G a = none) (hc : CellAt G s'.heap (a, cv)) : InvF X G vs ((a, cv) :: cs) ts s' := by
  have y := x.post0 p
  refine ⟨y.st, y.on, y.le, y.fresh, y.keep, y.wr, y.loc, y.nL, fun z hz => ?_, ?_, y.tmp⟩
  · rcases List.mem_cons.mp hz with rfl | hz
    · refine ⟨hc, hG, fun q => ?_, .inr ?_⟩
      · obtain ⟨m, ⟨o, _, _, ho, _⟩, _⟩ := x.loc
        have q' : a = X.env.locals := q
        rw [← q', hn] at ho; cases ho
      · cases e : X.s0.heap.get? a with
        | none => rfl
        | some o =>
          by_cases hw : X.W a
          · obtain ⟨_, o', ho'⟩ := x.wr a hw; rw [hn] at ho'; cases ho'
          · have := x.keep a o e hw; rw [hn] at this; cases this
    · exact y.cell z hz
  · rw [List.map_cons, List.nodup_cons]
    refine ⟨fun hm => ?_, y.nd⟩
    obtain ⟨z, hz, e⟩ := List.mem_map.mp hm
    obtain ⟨o, ho⟩ := (x.cell z hz).1.some
    rw [show z.1 = a from e, hn] at ho; cases ho
/-- x = f(..), a list of the walk's own -/
theorem ex_assign_new {vs' : Addr → List (Option PV)} {j : Nat} {x : Str} {p' pos cpos : Pos} {fe : Expr} {f : Addr} {es : List Expr} {Q : Fz → Prop} {ps r : List PV} {rest : List Stmt} (hf : Ev X vs cs fe (.raw (.ref f)) cs) (hi : IsFn c f) (ha : EvL X vs cs cpos es ps cs1)
    (h : FnNew c j (.ref f) Q ps r) (hj : j ≤ k) (hQ : ∀ F, X.F0.le F → Q F) (g : ∀ a, SetAt ks vs x (.raw (.ref a)) (vs' a)) (hr : ∀ a, Ex X (vs' a) ((a, .lst r) :: cs1) rest N R)
    (hst : (starEach es X.env).any (·.1) = false := by rfl)
    (he : eval (.Call fe es [] cpos) X.env = (do callWith cpos (← eval fe X.env) [] (backTo cpos (starEach es X.env)) (backToKw cpos (keywordEach [] X.env))) := by rfl)
    (hs : swapsWith (.Call fe es [] cpos) (some (.Name x p')) pos.line X.env = pure false := by rfl) : Ex X vs cs (.Assign [.Name x p'] (.Call fe es [] cpos) pos :: rest) N R :=
  ex_cons fun ts s i => wpAny_Assign_Name (by
    rw [he]
    refine wpAny_bind (wm (hf ts s i) fun v s1 i1 => ?_)
    have := i1.traw; subst this
    obtain ⟨o, fd, ho, hd⟩ := hi.h
    refine callWith_function (o := o) (fd := fd) (evalArgs_of (star_none hst) (wm (ha ts s1 i1.pop) fun us s2 ⟨l, i2⟩ => ?_))
    refine ⟨⟨let ⟨F, y⟩ := i2; y.inK _ _ ho, hd⟩, ?_⟩
    obtain ⟨F, i2⟩ := i2
    refine wpAny_call (codeAny_mono (h X.A s2 F us (X.rm.less hj) (X.cf.mono i2.le) i2.on (i2.args l) (hQ F i2.le)) fun res s' q => ?_)
    obtain ⟨a, G, rfl, hp, h1, h2, h3⟩ := q
    have i3 := (i2.popN.newOwn hp h1 h2 h3).push (.raw (.ref a)) (.ref a) .raw
    exact wm (st_local (g a) i3.inv) fun _ s4 i4 => ⟨_, _, i4, hr a⟩) hs
/-- a call of something that must know of more -/
theorem run_q {j : Nat} {f : Value} {ps : List PV} {r : PV} {Q : Fz → Prop} {us : List Value} (h : FnQ c j f Q ps r) (hj : j ≤ k) (hQ : ∀ F, X.F0.le F → Q F) (l : us.length = ps.length) (i : Inv X vs cs (us.zip ps ++ ts) s) :
    wpAny (model c.prog c.w) X.A (call f us []) (fun v s' => Inv X vs cs ((v, r) :: ts) s') (fun _ _ => False) s := by
  obtain ⟨F, i⟩ := i
  refine wpAny_call (codeAny_mono (h X.A s F us (X.rm.less hj) (X.cf.mono i.le) i.on (i.args l) (hQ F i.le)) fun res s' q => ?_)
  obtain ⟨v, G, rfl, hp, hi⟩ := q
  exact ⟨G, (i.popN.post0 hp).push _ _ hi⟩
end
end Mine

end
section
open PySem PySem.W PyProof.Rows
namespace Mine
open PySem PySem.Calls PySem.W PyProof.Rows PySem.Builtin.Str

theorem three_ne {n a : Nat} (h : a < n) : (¬n + 1 = n + 1 + 1 ∧ ¬n + 1 = a) ∧ ¬n + 1 + 1 = a := ⟨⟨by lia, by lia⟩, by lia⟩
noncomputable def fdatOf (K : Frag) (a : Addr) : FuncData := match K.lookup a with | some ⟨_, _, .func fd, _⟩ => fd | _ => default
noncomputable def objOf (K : Frag) (a : Addr) : Obj := match K.lookup a with | some o => o | none => default
/-- a def with two cells among its three parameters -/
structure CellDef (c : Cx) (f : Addr) (x y z : Str) (gl : List Str) (body : List Stmt) : Prop where
  h : ∃ o fd, c.K.lookup f = some o ∧ o.data = .func fd ∧ fd.body = .stmts body ∧ codeIn c.K fd.code fd.qualname = true ∧ fd.globals = mainGlobals ∧ fd.builtins = builtinsNs ∧ fd.closure = [] ∧
    (∀ u v w : Value, bindArgs fd ⟨[u, v, w], []⟩ = pure [(x, u), (y, v), (z, w)]) ∧ fd.scope.names = (x, .cell) :: (y, .cell) :: (z, .local) :: gl.map (·, .globalImplicit) ∧
    fd.scope.isCoroutine = false ∧ fd.scope.isGenerator = false ∧ fd.scope.kind = .function
  nd : (x :: y :: z :: gl).Nodup
theorem CellDef.isFn {c : Cx} {f : Addr} {x y z : Str} {gl : List Str} {body : List Stmt} (d : CellDef c f x y z gl body) : IsFn c f := let ⟨o, fd, h1, h2, _⟩ := d.h; ⟨o, fd, h1, h2⟩
theorem cellsFrom_gl (gl : List Str) : ∀ (n : Nat) (acc : List (Str × Addr)), cellsFrom n (gl.map (·, NameKind.globalImplicit)) acc = acc := by
  induction gl with
  | nil => intro n acc; rfl
  | cons g r ih => intro n acc; exact ih n acc
theorem cellsFrom_two (x y z : Str) (gl : List Str) (n : Nat) : cellsFrom n ((x, .cell) :: (y, .cell) :: (z, .local) :: gl.map (·, .globalImplicit)) [] = [(y, n + 1), (x, n)] := by
  show cellsFrom (n + 1 + 1) (gl.map (·, NameKind.globalImplicit)) [(y, n + 1), (x, n)] = _
  exact cellsFrom_gl gl _ _
theorem lookup_gl {gl : List Str} {g : Str} (h : g ∈ gl) : (gl.map (·, NameKind.globalImplicit)).lookup g = some .globalImplicit := by
  induction gl with
  | nil => cases h
  | cons a r ih =>
    rw [List.map_cons, List.lookup_cons]
    cases hb : g == a with
    | true => rfl
    | false =>
      rcases List.mem_cons.mp h with rfl | h
      · simp at hb
      · exact ih h
theorem binds3 {ko : Str → Option NameKind} {x y z : Str} {u v w : Value} (lx : ko x = some .cell) (ly : ko y = some .cell) (lz : ko z = some .local) (nxy : x ≠ y) :
    bindC ko [(x, u), (y, v), (z, w)] (fun _ => none) x = some u ∧ bindC ko [(x, u), (y, v), (z, w)] (fun _ => none) y = some v ∧ bindL ko [(x, u), (y, v), (z, w)] (fun _ => none) z = some w := by
  have c : ¬(some NameKind.cell = some .local) := by decide
  simp only [bindC, bindL, lx, ly, lz, if_neg c, if_pos nxy, if_neg nxy, if_true, and_self]
theorem look2 {x y : Str} (nxy : x ≠ y) (n m : Addr) : [(y, m), (x, n)].lookup x = some n ∧ [(y, m), (x, n)].lookup y = some m := by
  have : (x == y) = false := by simpa using nxy
  rw [List.lookup_cons, this, List.lookup_cons, List.lookup_cons]; simp
theorem nodup1 (z : Str) : [z].Nodup := by simp
theorem names4 {ns : List (Str × NameKind)} {x y z : Str} {gl : List Str} (hn : ns = (x, .cell) :: (y, .cell) :: (z, .local) :: gl.map (·, .globalImplicit)) (nd : (x :: y :: z :: gl).Nodup) {b : Str} (hb : b ∈ gl) : ns.lookup b = some .globalImplicit := by
  have bf : ∀ {a b : Str}, a ≠ b → (a == b) = false := fun h => by simpa using h
  simp only [List.nodup_cons, List.mem_cons, not_or] at nd
  obtain ⟨⟨_, _, h1⟩, ⟨_, h2⟩, h3, _⟩ := nd
  have n1 : b ≠ x := fun e => h1 (e ▸ hb)
  have n2 : b ≠ y := fun e => h2 (e ▸ hb)
  have n3 : b ≠ z := fun e => h3 (e ▸ hb)
  rw [hn, List.lookup_cons, bf n1, List.lookup_cons, bf n2, List.lookup_cons, bf n3]; exact lookup_gl hb
theorem names3 {ns : List (Str × NameKind)} {x y z : Str} {gl : List Str} (hn : ns = (x, .cell) :: (y, .cell) :: (z, .local) :: gl.map (·, .globalImplicit)) (nxy : x ≠ y) (nxz : x ≠ z) (nyz : y ≠ z) :
    ns.lookup x = some .cell ∧ ns.lookup y = some .cell ∧ ns.lookup z = some .local := by
  have bf : ∀ {a b : Str}, a ≠ b → (a == b) = false := fun h => by simpa using h
  refine ⟨?_, ?_, ?_⟩
  · rw [hn, List.lookup_cons]; simp
  · rw [hn, List.lookup_cons, bf (Ne.symm nxy), List.lookup_cons]; simp
  · rw [hn, List.lookup_cons, bf (Ne.symm nxz), List.lookup_cons, bf (Ne.symm nyz), List.lookup_cons]; simp
theorem iss3 {F : Fz} {p q t : PV} {us : List Value} (h : Iss F [p, q, t] us) : ∃ u v w, us = [u, v, w] ∧ Is F p u ∧ Is F q v ∧ Is F t w := by
  cases h with | cons hp hi => cases hi with | cons hq hi => cases hi with | cons ht hi => cases hi; exact ⟨_, _, _, rfl, hp, hq, ht⟩
theorem fn_of_cells {c : Cx} {k : Nat} {f : Addr} {x y z : Str} {gl : List Str} {body : List Stmt} {p q t : PV} {a : Addr} {cv cv' : CV} {r : PV} (d : CellDef c f x y z gl body)
    (h : ∀ (L : Addr) (X : Fx c k [z] gl [(x, L), (y, L + 1)]), X.env.scope.names = (x, .cell) :: (y, .cell) :: (z, .local) :: gl.map (·, .globalImplicit) → X.env.cells = [(y, L + 1), (x, L)] → (∀ b, X.W b ↔ b = a) →
      Ex X [some t] [(L, .var (some p)), (L + 1, .var (some q)), (a, cv)] body (fun _ _ => False) (fun p' cs'' => p' = r ∧ ∃ d1 d2, cs'' = [d1, d2, (a, cv')])) :
    FnM c (k + 1) (.ref f) [p, q, t] [(a, cv)] r [(a, cv')] := by
  intro A s F us rm cf on hi hcs hnd
  obtain ⟨o, fd, ho, hd, hb, hcode, hg, hbl, hcl, hbind, hnames, hco, hgen, hkind⟩ := d.h
  have inK := cf.inK on
  have T := cf.top _ on
  obtain ⟨u, v, w, rfl, hp, hq, ht⟩ := iss3 hi
  have nd := d.nd
  simp only [List.nodup_cons, List.mem_cons, not_or] at nd
  obtain ⟨⟨nxy, nxz, _⟩, ⟨nyz, _⟩, nzg, _⟩ := nd
  obtain ⟨lx, ly, lz⟩ := names3 hnames nxy nxz nyz
  have hcells : ∀ n, cellsFrom n fd.scope.names [] = [(y, n + 1), (x, n)] := fun n => by rw [hnames]; exact cellsFrom_two x y z gl n
  have cx : ∀ n, (cellsFrom n fd.scope.names []).lookup x = some n := fun n => by rw [hcells]; exact (look2 nxy _ _).1
  have cy : ∀ n, (cellsFrom n fd.scope.names []).lookup y = some (n + 1) := fun n => by rw [hcells]; exact (look2 nxy _ _).2
  refine codeAny_call_cells (fd := fd) (body := body) (binds := [(x, u), (y, v), (z, w)]) rm.lt (inK _ _ ho) hd T.nolimit (codeRec_of inK hcode) hb (hbind u v w) hcl (fun b hb => ?_) (fun s₁ ic => ?_) hco hgen hkind
  · simp only [List.mem_cons, List.not_mem_nil, or_false] at hb
    rcases hb with rfl | rfl | rfl
    · exact .inr ⟨lx, by rw [cx]; rfl⟩
    · exact .inr ⟨ly, by rw [cy]; rfl⟩
    · exact .inl lz
  have kof : ∀ n, (callEnvC fd s.heap.objs.size f).kindOf n = fd.scope.names.lookup n := fun n => rfl
  have hX3 : ∀ b ∈ [z], (callEnvC fd s.heap.objs.size f).kindOf b = some .local := fun b hb => by
    have : b = z := by simpa using hb
    rw [this]; exact lz
  have hX4 : ∀ b ∈ gl, (callEnvC fd s.heap.objs.size f).kindOf b = some .globalImplicit := fun b hb => (kof b).trans (names4 hnames d.nd hb)
  have hX5 : ∀ b ∈ [(x, s.heap.objs.size + 1), (y, s.heap.objs.size + 1 + 1)], ((callEnvC fd s.heap.objs.size f).kindOf b.1 = some .cell ∨ (callEnvC fd s.heap.objs.size f).kindOf b.1 = some .free) ∧ (callEnvC fd s.heap.objs.size f).cells.lookup b.1 = some b.2 :=
    List.forall_mem_cons.mpr ⟨⟨.inl lx, cx _⟩, List.forall_mem_cons.mpr ⟨⟨.inl ly, cy _⟩, fun _ h => nomatch h⟩⟩
  let X : Fx c k [z] gl [(x, s.heap.objs.size + 1), (y, s.heap.objs.size + 1 + 1)] :=
    ⟨A.deeper (callEnvC fd s.heap.objs.size f), callEnvC fd s.heap.objs.size f, s, F, fun b => b = a, rm.deeper, cf, hkind, hg, hbl, Nat.le_refl _, nodup1 z, hX3, hX4, hX5⟩
  obtain ⟨h₁, tk, rfl, kp⟩ := ic.done
  obtain ⟨hca, hFa⟩ := hcs _ (.head _)
  obtain ⟨oa, hoa⟩ := hca.some
  have hoa : s.heap.get? a = some oa := hoa
  have c1 := ic.cell x _ (cx _)
  have c2 := ic.cell y _ (cy _)
  obtain ⟨e1, e2, e3⟩ := binds3 (ko := (callEnvC fd s.heap.objs.size f).kindOf) (u := u) (v := v) (w := w) lx ly lz nxy
  rw [e1] at c1
  rw [e2] at c2
  have i0 : Inv X [some t] [(s.heap.objs.size + 1, .var (some p)), (s.heap.objs.size + 1 + 1, .var (some q)), (a, cv)] [] { s with heap := h₁, toks := tk } := by
    have old : ∀ b o, s.heap.get? b = some o → b < s.heap.objs.size := fun b o e => Heap.lt_size e
    have nF : ∀ b, s.heap.objs.size ≤ b → F b = none := fun b hb => by
      cases e : F b with
      | none => rfl
      | some o' => exact absurd (Heap.lt_size (on _ _ e)) (Nat.not_lt.mpr hb)
    refine ⟨F, ⟨⟨h₁, tk, rfl⟩, fun b o e => kp b o (on b o e), Fz.le_refl _, fun b o _ n => n, fun b o e _ => kp b o e, fun b hb => ?_, ⟨_, ic.toInCall.ns, fun b p' g => ?_⟩, ⟨nF _ (Nat.le_refl _), fun hw => ?_⟩, fun b hb => ?_, ?_, fun t ht => nomatch ht⟩⟩
    · have hb : b = a := hb
      subst hb; exact ⟨hFa, oa, kp _ _ hoa⟩
    · cases g with
      | head => exact ⟨w, e3, ht⟩
      | tail g => cases g
    · have hw : s.heap.objs.size = a := hw
      exact absurd (Heap.lt_size hoa) (by rw [← hw]; exact Nat.lt_irrefl _)
    · simp only [List.mem_cons, List.not_mem_nil, or_false] at hb
      rcases hb with rfl | rfl | rfl
      · exact ⟨⟨u, c1, hp⟩, nF _ (Nat.le_succ _), Nat.succ_ne_self _, .inr (Heap.get?_none_of_le (Nat.le_succ _))⟩
      · exact ⟨⟨v, c2, hq⟩, nF _ (by show s.heap.objs.size ≤ s.heap.objs.size + 1 + 1; lia), by show s.heap.objs.size + 1 + 1 ≠ s.heap.objs.size; lia, .inr (Heap.get?_none_of_le (by show s.heap.objs.size ≤ s.heap.objs.size + 1 + 1; lia))⟩
      · exact ⟨hca.mono (Fz.le_refl _) (kp _), hFa, Nat.ne_of_lt (Heap.lt_size hoa), .inl rfl⟩
    · have := Heap.lt_size hoa
      simp only [List.map_cons, List.map_nil, List.nodup_cons, List.mem_cons, List.not_mem_nil, or_false, not_or, not_false_eq_true, List.nodup_nil, and_true]
      exact three_ne this
  refine wpAny_mono (h _ X hnames (hcells _) (fun b => Iff.rfl) [] _ i0) (fun fl s' q => ?_) fun _ _ q => q.elim
  cases fl with
  | next => obtain ⟨vs, cs'', hf, i⟩ := q; exact hf.elim
  | ret v =>
    obtain ⟨p', vs, cs'', ⟨rfl, d1, d2, rfl⟩, G, i⟩ := q
    refine ⟨v, G, rfl, ⟨i.st, i.le, i.on, i.fresh, fun b o e hm => i.keep b o e fun hw => hm ?_⟩, i.tmp _ (.head _), fun z hz => ?_⟩
    · have hw : b = a := hw
      subst hw; exact .head _
    · have : z = (a, cv') := by simpa using hz
      subst this
      exact (i.cell _ (.tail _ (.tail _ (.head _)))).1
  | _ => exact q.elim
end Mine

end
section
open PySem PySem.W PyProof.Rows
namespace Mine
open PySem PySem.Calls PySem.W PyProof.Rows PySem.Builtin.Str

/-- the __init__ of the rows -/
structure InitOk (c : Cx) (body : List Stmt) : Prop where
  h : c.K.lookup 212 = some (objOf c.K 212) ∧ (objOf c.K 212).data = .func (fdatOf c.K 212) ∧ (fdatOf c.K 212).body = .stmts body ∧ codeIn c.K (fdatOf c.K 212).code (fdatOf c.K 212).qualname = true ∧ (fdatOf c.K 212).globals = mainGlobals ∧ (fdatOf c.K 212).builtins = builtinsNs ∧
    (∀ x ∈ (fdatOf c.K 212).scope.names, x.2 ≠ .cell) ∧ (∀ x ∈ [ks "self", ks "codes", ks "place"], (fdatOf c.K 212).scope.names.lookup x = some .local) ∧ (∀ x ∈ [ks "list"], (fdatOf c.K 212).scope.names.lookup x = some .globalImplicit) ∧
    (fdatOf c.K 212).scope.isCoroutine = false ∧ (fdatOf c.K 212).scope.isGenerator = false ∧ (fdatOf c.K 212).scope.kind = .function
  two : ∀ (s : Shared) (a b d : Value), c.K.In s.heap → BindsTo s (fdatOf c.K 212) ⟨[a, b, d], []⟩ [(ks "self", a), (ks "codes", b), (ks "place", d)]
  one : ∃ t : Tok, ∀ (s : Shared) (a b : Value), c.K.In s.heap → BindsTo s (fdatOf c.K 212) ⟨[a, b], []⟩ [(ks "self", a), (ks "codes", b), (ks "place", .int 1 t)]
  makes : makesIn c.K rowCls = true
  init : findIn c.K (.ref rowCls) "__init__" = some (some (.ref 212)) ∧ typeIn c.K (.ref 212) = some (.type "function")
  seta : findIn c.K (.ref rowCls) "__setattr__" = some (some (.builtin "object.__setattr__"))
  plainO : plainOver c.K rowCls = true
  takC : takerIn c.K rowCls (ks "codes") = some none
  takP : takerIn c.K rowCls (ks "place") = some none
  hasD : hasDictIn c.K rowCls = true
  keep : keepIn c.K (.ref rowCls) = true
  g_list : nsIn c.K mainGlobals (ks "list") = some none

section
variable {c : Cx} {cs' : Value → Cells} {k : Nat} {nk gl : List Str} {cl : List (Str × Addr)} {X : Fx c k nk gl cl} {F : Fz} {vs vs1 vs2 vs' : List (Option PV)} {cs cs1 cs2 cs3 cs4 : Cells} {ts ts' : List (Value × PV)} {s : Shared}
  {N : List (Option PV) → Cells → Prop} {R : PV → Cells → Prop}

/-- x.name = v -/
theorem set_attr {body : List Stmt} (K : InitOk c body) {x dx : Addr} {es : List DictEntry} {n : Nat} {name : Str} {v : Value} (ht : takerIn c.K rowCls name = some none) (hl : (getL name es).isSome = true) (hz : es.length ≤ 900) (hd : (dx, CV.st (· = dictOf es n)) ∈ cs) (hx : (x, CV.st (· = instObj rowCls dx)) ∈ cs)
    (hs : ∀ key : Value, CsSet cs dx (.st (· = dictOf es n)) (.st (· = dictOf (putL name (PyData.keyHash c.w.params name) key v es) (putN name es n))) (cs' key)) (i : Inv X vs cs ts s) {Q : Unit → Shared → Prop} {E : Value → Shared → Prop}
    (q : ∀ t s', Inv X vs (cs' (.str name t)) ts s' → Q () s') : wpAny (model c.prog c.w) X.A (setAttr (.ref x) name v) Q E s := by
  obtain ⟨F, i⟩ := i
  obtain ⟨⟨od, hod, e1⟩, _⟩ := i.cell _ hd
  obtain ⟨⟨ox, hox, e2⟩, _⟩ := i.cell _ hx
  have e1 : od = dictOf es n := e1
  have e2 : ox = instObj rowCls dx := e2
  subst e1 e2
  have hod : s.heap.get? dx = some (dictOf es n) := hod
  have hox : s.heap.get? x = some (instObj rowCls dx) := hox
  refine set_plain (od := some (dictOf es n)) i.inK ⟨hox, rfl, rfl, hod⟩ K.seta ?_
  have i' := i.tok (t := s.toks + 1)
  obtain ⟨m, news, Fh, Nw, hne, k1⟩ := i'.viaC (hs (.str name (s.toks + 1))) hod
  refine osa_dict (s := { s with toks := s.toks + 1 }) (pre := []) (post := news) (od := dictOf es n) (od' := dictOf (putL name (PyData.keyHash c.w.params name) (.str name (s.toks + 1)) v es) (putN name es n)) (es := putL name (PyData.keyHash c.w.params name) (.str name (s.toks + 1)) v es) (n := putN name es n)
    Fh Nw i'.inK ⟨hox, rfl, rfl, hod⟩ rfl K.plainO ht K.hasD hl (fun _ h => nomatch h) hne (putName_dict _ _ _ _ _ _) rfl ?_ fun h' F' N' => ?_
  · have : ∀ l : List DictEntry, (putL name (PyData.keyHash c.w.params name) (.str name (s.toks + 1)) v l).length ≤ l.length + 1 := by
      intro l
      induction l with
      | nil => exact Nat.le_refl _
      | cons a r ih => unfold putL; split <;> simp <;> lia
    have := this es; lia
  · exact q _ _ (k1 h' _ _ F' N' ⟨_, (N' _ (.head _)).1, rfl⟩).inv
theorem ev_list_copy {fe e : Expr} {pos : Pos} {ps : List PV} (hf : Ev X vs cs fe (.raw (.type "list")) cs) (he : Ev X vs cs e (.list ps) cs1) (hl : ps.length ≤ 1000000) (hst : starEach [e] X.env = [(false, eval e X.env)] := by rfl)
    (hev : eval (.Call fe [e] [] pos) X.env = (do callWith pos (← eval fe X.env) [] (backTo pos (starEach [e] X.env)) (backToKw pos (keywordEach [] X.env))) := by rfl) : Ev X vs cs (.Call fe [e] [] pos) (.list ps) cs1 := fun ts s i => by
  rw [hev]
  refine wpAny_bind (wm (hf ts s i) fun v s1 i1 => ?_)
  have := i1.traw; subst this
  have hst' : (starEach [e] X.env).any (·.1) = false := by rw [hst]; rfl
  refine _root_.PySem.callWith_type (star_none hst') (evalArgs_of (star_none hst') (wm (el_cons he el_nil hst _ s1 i1.pop) fun us s2 ⟨l, ⟨F, i2⟩⟩ => ?_))
  obtain ⟨u1, rfl⟩ := args1 l
  obtain ⟨a, us, n, rfl, e1, hi⟩ := isList (i2.tmp _ (.head _))
  obtain ⟨o, ho, hc, n', hd⟩ := IsList_of (i2.on _ _ e1)
  refine call_list_seq (hsz := by rw [hi.size, sizeLine_eq]; lia) a (.inl rfl) ho hc hd fun h' c' hk hD => ?_
  have y := i2.pop.keeps (t := s2.toks) hk
  have hn : F s2.heap.objs.size = none := i2.new (Nat.le_refl _)
  have le := Fz.le_add (o := listObj us c') hn
  refine ⟨_, (y.grow (G := F.add s2.heap.objs.size (listObj us c')) le (fun b p e => ?_) (fun b p e nn hcx => ?_)).push _ _ (.list Fz.add_self (hi.mono le))⟩
  · by_cases q : b = s2.heap.objs.size
    · subst q; rw [Fz.add_self] at e; cases e; exact hD
    · rw [Fz.add_ne q] at e; exact y.on b p e
  · obtain ⟨n1, n2, n3, n4⟩ := i2.endNew (Nat.le_refl _)
    have q : b ≠ s2.heap.objs.size := by
      rcases hcx with rfl | hw | ⟨z, hz, rfl⟩ | ⟨o', h'⟩
      · exact Ne.symm n2
      · obtain ⟨_, o', h''⟩ := i2.wr b hw; exact Nat.ne_of_lt (Heap.lt_size h'')
      · exact fun q => n4 (List.mem_map.mpr ⟨z, hz, q⟩)
      · exact fun q => by rw [q, n3] at h'; cases h'
    rw [Fz.add_ne q]; exact nn

theorem InvF.absent (x : InvF X F vs cs ts s) {a : Addr} (hn : s.heap.get? a = none) : F a = none ∧ a ≠ X.env.locals ∧ X.s0.heap.get? a = none ∧ a ∉ cs.map (·.1) ∧ ¬ X.W a := by
  have hW : ¬ X.W a := fun hw => by
    obtain ⟨_, o, ho⟩ := x.wr a hw
    rw [hn] at ho; cases ho
  refine ⟨?_, fun q => ?_, ?_, fun hm => ?_, hW⟩
  · cases e : F a with
    | none => rfl
    | some o => have := x.on a o e; rw [hn] at this; cases this
  · obtain ⟨m, ⟨o, _, _, ho, _⟩, _⟩ := x.loc
    rw [← q, hn] at ho; cases ho
  · cases e : X.s0.heap.get? a with
    | none => rfl
    | some o => have := x.keep a o e hW; rw [hn] at this; cases this
  · obtain ⟨z, hz, e⟩ := List.mem_map.mp hm
    obtain ⟨o, ho⟩ := (x.cell z hz).1.some
    rw [show z.1 = a from e, hn] at ho; cases ho
theorem InvF.freezeO {a : Addr} {o : Obj} (x : InvF X F vs ((a, .st (· = o)) :: cs) ts s) (hW : ¬ X.W a) : F.le (F.add a o) ∧ InvF X (F.add a o) vs cs ts s := by
  obtain ⟨⟨o', hl, ho⟩, c2, c3, c4⟩ := x.cell _ (.head _)
  have ho : o' = o := ho
  subst ho
  have c2' : F a = none := c2
  have le := Fz.le_add (o := o') c2'
  refine ⟨le, ?_⟩
  have y : InvF X F vs cs ts s := ⟨x.st, x.on, x.le, x.fresh, x.keep, x.wr, x.loc, x.nL, fun z hz => x.cell z (.tail _ hz), (List.nodup_cons.mp x.nd).2, x.tmp⟩
  refine y.grow le (fun b p e => ?_) (fun b p e n hc => ?_)
  · by_cases q : b = a
    · subst q; rw [Fz.add_self] at e; cases e; exact hl
    · rw [Fz.add_ne q] at e; exact x.on b p e
  · have q : b ≠ a := by
      rcases hc with rfl | hw | ⟨z, hz, rfl⟩ | ⟨o', h'⟩
      · exact Ne.symm c3
      · exact fun q => hW (q ▸ hw)
      · have nd := (List.nodup_cons.mp x.nd).1
        exact fun q => nd (List.mem_map.mpr ⟨z, hz, q⟩)
      · intro q
        rcases c4 with h4 | h4
        · exact hW h4
        · rw [q, h4] at h'; cases h'
    rw [Fz.add_ne q]; exact n
end

theorem init_run {c : Cx} {body : List Stmt} (K : InitOk c body) {p1 p2 p3 p4 p5 p6 p7 p8 p9 p10 : Pos}
    (hb : body = [.Assign [.Attribute (.Name (ks "self") p1) (ks "codes") p2] (.Call (.Name (ks "list") p3) [.Name (ks "codes") p4] [] p5) p6, .Assign [.Attribute (.Name (ks "self") p7) (ks "place") p8] (.Name (ks "place") p9) p10])
    {A : Around} {s : Shared} {F : Fz} {x dx : Addr} {v1 v2 : Value} {us : List Value} {cc : List Int} {f : Int} (rm : Rm 1 A) (cf : CF c F) (on : F.on s.heap) (h1 : Is F (.list (cc.map PV.int)) v1) (h2 : Is F (.int f) v2)
    (hbind : BindsTo s (fdatOf c.K 212) ⟨us, []⟩ [(ks "self", .ref x), (ks "codes", v1), (ks "place", v2)]) (hx : s.heap.get? x = some (instObj rowCls dx)) (hdx : s.heap.get? dx = some emptyDict) (fx : F x = none) (fdx : F dx = none) (ne : x ≠ dx) (hl : cc.length ≤ 1000000) :
    codeAny (model c.prog c.w) A (.call (.ref 212) ⟨us, []⟩) (fun res s' => res = .ok (.ret .none) ∧ ∃ G e1 e2 t1 t2 t3 n l, PostF F s G s' [x, dx] ∧ s'.heap.get? x = some (instObj rowCls dx) ∧
      s'.heap.get? dx = some (dictOf [⟨e1, .str (ks "codes") t1, .ref l⟩, ⟨e2, .str (ks "place") t2, .int f t3⟩] n) ∧ Is G (.list (cc.map PV.int)) (.ref l)) s := by
  subst hb
  obtain ⟨ho, hd, hbd, hcode, hg, hbl, hcell, hloc, hgl, hco, hgen, hkind⟩ := K.h
  have inK := cf.inK on
  have T := cf.top _ on
  refine codeAny_call_def (fd := fdatOf c.K 212) rm.lt (inK _ _ ho) hd T.nolimit (codeRec_of inK hcode) hbd hbind hcell (fun y hy => ?_) (fun h₀ hns hk => ?_) hco hgen hkind
  · simp only [List.mem_cons, List.not_mem_nil, or_false] at hy
    rcases hy with rfl | rfl | rfl <;> exact hloc _ (by simp)
  let X : Fx c 0 [ks "self", ks "codes", ks "place"] [ks "list"] [] := {
    A := A.deeper (callEnv (fdatOf c.K 212) s.heap.objs.size 212), env := callEnv (fdatOf c.K 212) s.heap.objs.size 212, s0 := s, F0 := F, W := fun a => a = x ∨ a = dx
    rm := rm.deeper, cf := cf, kind := hkind, glob := hg, blt := hbl, above := Nat.le_refl _, nd := by decide +kernel, loc := hloc, gls := hgl, cls := fun _ hx => nomatch hx }
  have kse : (ks "codes" == ks "self") = false := by decide +kernel
  have kpe : (ks "place" == ks "self") = false := by decide +kernel
  have kpc : (ks "place" == ks "codes") = false := by decide +kernel
  have ksp : (ks "self" == ks "place") = false := by decide +kernel
  have ksc : (ks "self" == ks "codes") = false := by decide +kernel
  have kcp : (ks "codes" == ks "place") = false := by decide +kernel
  have i0 : Inv X [some (.raw (.ref x)), some (.list (cc.map PV.int)), some (.int f)] [(x, .st (· = instObj rowCls dx)), (dx, .st (· = dictOf [] 0))] [] { s with heap := h₀, toks := s.toks + 3 } := by
    refine ⟨F, ⟨⟨h₀, _, rfl⟩, fun a o e => hk a o (on a o e), Fz.le_refl _, fun a o _ n => n, fun a o e _ => hk a o e, fun a ha => ?_, ⟨_, hns, fun y p g => ?_⟩, ⟨?_, fun hw => ?_⟩, fun z hz => ?_, by simp [ne], fun t ht => nomatch ht⟩⟩
    · rcases ha with rfl | rfl
      · exact ⟨fx, _, hk _ _ hx⟩
      · exact ⟨fdx, _, hk _ _ hdx⟩
    · cases g with
      | head => exact ⟨.ref x, by simp only [List.reverse_cons, List.reverse_nil, List.nil_append, List.cons_append, List.lookup_cons, ksp, ksc]; simp, .raw⟩
      | tail g => cases g with
        | head => exact ⟨v1, by simp only [List.reverse_cons, List.reverse_nil, List.nil_append, List.cons_append, List.lookup_cons, kcp]; simp, h1⟩
        | tail g => cases g with
          | head => exact ⟨v2, by simp, h2⟩
          | tail g => cases g
    · cases e : F s.heap.objs.size with
      | none => exact e
      | some o' => exact absurd (Heap.lt_size (on _ _ e)) (Nat.lt_irrefl _)
    · rcases hw with hw | hw
      · exact absurd (Heap.lt_size hx) (by rw [← hw]; exact Nat.lt_irrefl _)
      · exact absurd (Heap.lt_size hdx) (by rw [← hw]; exact Nat.lt_irrefl _)
    · simp only [List.mem_cons, List.not_mem_nil, or_false] at hz
      rcases hz with rfl | rfl
      · exact ⟨⟨_, hk _ _ hx, rfl⟩, fx, Nat.ne_of_lt (Heap.lt_size hx), .inl (.inl rfl)⟩
      · exact ⟨⟨_, hk _ _ hdx, rfl⟩, fdx, Nat.ne_of_lt (Heap.lt_size hdx), .inl (.inr rfl)⟩
  refine wpAny_mono (Q := fun fl s' => fl = .next ∧ ∃ G e1 e2 t1 t2 t3 n l, PostF F s G s' [x, dx] ∧ s'.heap.get? x = some (instObj rowCls dx) ∧
      s'.heap.get? dx = some (dictOf [⟨e1, .str (ks "codes") t1, .ref l⟩, ⟨e2, .str (ks "place") t2, .int f t3⟩] n) ∧ Is G (.list (cc.map PV.int)) (.ref l)) (E := fun _ _ => False) ?_ (fun fl s' q => ?_) fun _ _ q => q.elim
  rotate_left
  · obtain ⟨rfl, q⟩ := q; exact ⟨rfl, q⟩
  refine wpAny_execs_cons ?_
  refine plainObj_wpAny_Assign_Attribute (wm ((ev_list_copy (X := X) (ev_builtin (.head _) K.g_list rfl (by decide)) (ev_local (x := ks "codes") (.tail .head)) (by rw [List.length_map]; exact hl)) [] _ i0) fun l1 s1 i1 => wm ((ev_local (X := X) (x := ks "self") .head) _ s1 i1) fun u1 s2 i2 => ?_) rfl
  have := i2.traw; subst this
  refine set_attr K K.takC (by rfl) (by simp) (.tail _ (.head _)) (.head _) (fun key => .tail .head) i2.pop fun t1 s3 i3 => ?_
  refine wpAny_execs_cons ?_
  refine plainObj_wpAny_Assign_Attribute (wm ((ev_local (X := X) (x := ks "place") (.tail (.tail .head))) _ s3 i3) fun w1 s4 i4 => wm ((ev_local (X := X) (x := ks "self") .head) _ s4 i4) fun u2 s5 i5 => ?_) rfl
  have := i5.traw; subst this
  have e0 : putL (ks "codes") (PyData.keyHash c.w.params (ks "codes")) (.str (ks "codes") t1) l1 [] = [⟨PyData.keyHash c.w.params (ks "codes"), .str (ks "codes") t1, l1⟩] := rfl
  rw [e0] at i5
  have hki : (Value.str (ks "codes") t1).isStr (ks "place") = false := by show (ks "codes" == ks "place") = false; exact kcp
  refine set_attr K K.takP ?_ (by simp) (.tail _ (.head _)) (.head _) (fun key => .tail .head) i5.pop fun t2 s6 i6 => ?_
  · unfold getL
    simp only [List.find?_cons, hki, List.find?_nil, List.any_cons, List.any_nil]
    rfl
  refine wpAny_execs_nil ?_
  have e3 : putL (ks "place") (PyData.keyHash c.w.params (ks "place")) (.str (ks "place") t2) w1 [⟨PyData.keyHash c.w.params (ks "codes"), .str (ks "codes") t1, l1⟩] = [⟨PyData.keyHash c.w.params (ks "codes"), .str (ks "codes") t1, l1⟩, ⟨PyData.keyHash c.w.params (ks "place"), .str (ks "place") t2, w1⟩] := by
    unfold putL
    simp only [hki]
    rfl
  rw [e3] at i6
  obtain ⟨G, i6⟩ := i6
  obtain ⟨tw, rfl⟩ := isInt (i6.tmp _ (.head _))
  have hli := i6.tmp _ (.tail _ (.head _))
  obtain ⟨l, us', n, e, _, _⟩ := isList hli
  have e : l1 = .ref l := e
  subst e
  obtain ⟨ox, hox, e1⟩ := (i6.cell _ (.head _)).1
  obtain ⟨od, hod, e2⟩ := (i6.cell _ (.tail _ (.head _))).1
  have e1 : ox = _ := e1
  have e2 : od = _ := e2
  subst e1 e2
  exact ⟨rfl, G, _, _, _, _, _, _, _, ⟨i6.st, i6.le, i6.on, i6.fresh, fun a o e hm => i6.keep a o e fun hw => hm (by rcases hw with h | h <;> simp [h])⟩, hox, hod, hli⟩
end Mine

end
section
open PySem PySem.W PyProof.Rows
namespace Mine
open PySem PySem.Calls PySem.W PyProof.Rows PySem.Builtin.Str

section
variable {c : Cx} {k : Nat} {nk gl : List Str} {cl : List (Str × Addr)} {X : Fx c k nk gl cl} {F : Fz} {vs vs1 vs2 vs' : List (Option PV)} {cs cs1 cs2 cs3 cs4 : Cells} {ts ts' : List (Value × PV)} {s : Shared}
  {N : List (Option PV) → Cells → Prop} {R : PV → Cells → Prop} {p1 p2 p3 p4 p5 p6 p7 p8 p9 p10 : Pos} {body : List Stmt}

theorem Rm.under {A : Around} (h : Rm (k + 1) A) (C : Addr) (us : List Value) : Rm k (A.under (.builtin "type.__call__" ⟨.ref C :: us, []⟩)) :=
  ⟨h.hd, by rw [depth_under_make]; have := h.dp; lia, by
    have := h.un
    have e : (A.under (.builtin "type.__call__" ⟨.ref C :: us, []⟩)).units = A.units + 1 := rfl
    rw [e]; lia⟩
/-- all but the frame, as news -/
theorem InvF.viaA (x : InvF X F vs cs ts s) : ∃ m, Fr h00 X.env.locals s.heap m ∧ News h00 X.env.locals s.heap (allBut s.heap X.env.locals) ∧
    (∀ h' tk news, Fr h00 X.env.locals h' m → News h00 X.env.locals h' news → (∀ p ∈ allBut s.heap X.env.locals, p ∈ news) → InvF X F vs cs ts { s with heap := h', toks := tk }) := by
  obtain ⟨m, hn, hm⟩ := x.loc
  refine ⟨m, ⟨hn, (fun b o e => by rw [h00_get] at e; cases e), Nat.zero_le _⟩, fun p hp => ?_, fun h' tk news Fh N hs => ?_⟩
  · obtain ⟨a, o⟩ := p
    have := mem_allBut.mp hp
    exact ⟨this.2, this.1, h00_get _⟩
  · exact x.keepsL hm Fh.ns fun b o nb e => (N (b, o) (hs _ (mem_allBut.mpr ⟨nb, e⟩))).1
theorem row_make (K : InitOk c body) (hb : body = [.Assign [.Attribute (.Name (ks "self") p1) (ks "codes") p2] (.Call (.Name (ks "list") p3) [.Name (ks "codes") p4] [] p5) p6, .Assign [.Attribute (.Name (ks "self") p7) (ks "place") p8] (.Name (ks "place") p9) p10])
    {v1 v2 : Value} {us : List Value} {cc : List Int} {f : Int} (hk : 2 ≤ k) (i : InvF X F vs cs ts s) (h1 : Is F (.list (cc.map PV.int)) v1) (h2 : Is F (.int f) v2)
    (hbind : ∀ x s, c.K.In s.heap → BindsTo s (fdatOf c.K 212) ⟨.ref x :: us, []⟩ [(ks "self", .ref x), (ks "codes", v1), (ks "place", v2)]) (hl : cc.length ≤ 1000000) :
    wpAny (model c.prog c.w) X.A (call (.ref rowCls) us []) (fun v s' => Inv X vs cs ((v, .view cc f) :: ts) s') (fun _ _ => False) s := by
  obtain ⟨m, Fh, Nw, k1⟩ := i.viaA
  refine wpAny_call (make_K Fh Nw i.inK K.makes K.init.1 K.init.2 fun x dx h' F' N' hnd hdx => ?_)
  have y := k1 h' s.toks _ F' N' fun p hp => .tail _ (.tail _ hp)
  have n1 := N' _ (.head _)
  have n2 := N' _ (.tail _ (.head _))
  have g1 : h'.get? x = some (instObj rowCls dx) := n1.1
  have g2 : h'.get? dx = some emptyDict := n2.1
  have abs : ∀ a, a ≠ X.env.locals → dx ≤ a → s.heap.get? a = none := fun a hL ha => by
    cases e : s.heap.get? a with
    | none => rfl
    | some o => exact absurd (hnd _ (mem_allBut.mpr ⟨hL, e⟩)) (Nat.not_lt.mpr ha)
  obtain ⟨x1, x2, x3, x4, x5⟩ := i.absent (abs x n1.2.1 (Nat.le_of_lt hdx))
  obtain ⟨d1, d2, d3, d4, d5⟩ := i.absent (abs dx n2.2.1 (Nat.le_refl _))
  have ne : x ≠ dx := Nat.ne_of_gt hdx
  obtain ⟨k', rfl⟩ : ∃ k', k = k' + 2 := ⟨k - 2, by lia⟩
  refine codeAny_mono (init_run K hb ((X.rm.under rowCls us).less (by lia)) (X.cf.mono i.le) y.on h1 h2 (hbind x _ y.inK) g1 g2 x1 d1 ne hl) fun res s' ⟨e, G, e1, e2, t1, t2, t3, n, l, pf, q1, q2, q3⟩ => ?_
  subst e
  refine ⟨rfl, ?_⟩
  have z := y.postC (cs1 := cs) pf (fun a ha => by
    simp only [List.mem_cons, List.not_mem_nil, or_false] at ha
    rcases ha with rfl | rfl
    · exact .inr ⟨x2, x5, x3⟩
    · exact .inr ⟨d2, d5, d3⟩) rfl fun z hz => by
      obtain ⟨c1, c2, c3, c4⟩ := y.cell z hz
      exact c1.mono pf.le fun o e => pf.keep _ o e fun hm => by
        simp only [List.mem_cons, List.not_mem_nil, or_false] at hm
        rcases hm with hm | hm
        · exact x4 (List.mem_map.mpr ⟨z, hz, hm⟩)
        · exact d4 (List.mem_map.mpr ⟨z, hz, hm⟩)
  have Gx : G x = none := pf.fresh x _ g1 x1
  have Gd : G dx = none := pf.fresh dx _ g2 d1
  have w1 := z.addC (a := dx) (cv := .st (· = _)) ⟨_, q2, rfl⟩ Gd d2 d3 d4
  have w2 := w1.addC (a := x) (cv := .st (· = _)) ⟨_, q1, rfl⟩ Gx x2 x3 (by simp only [List.map_cons, List.mem_cons, not_or]; exact ⟨ne, x4⟩)
  obtain ⟨l1, w3⟩ := w2.freezeO x5
  obtain ⟨l2, w4⟩ := w3.freezeO d5
  obtain ⟨la, us', n', el, fl, his⟩ := isList q3
  cases el
  exact ⟨_, w4.push (.view cc f) (.ref x) (.view (l2 _ _ Fz.add_self) Fz.add_self (l2 _ _ (l1 _ _ fl)) ((his.mono l1).mono l2))⟩

theorem ev_row2 (K : InitOk c body) (hb : body = [.Assign [.Attribute (.Name (ks "self") p1) (ks "codes") p2] (.Call (.Name (ks "list") p3) [.Name (ks "codes") p4] [] p5) p6, .Assign [.Attribute (.Name (ks "self") p7) (ks "place") p8] (.Name (ks "place") p9) p10])
    {fe e1 e2 : Expr} {pos : Pos} {cc : List Int} {f : Int} (hk : 2 ≤ k) (hf : Ev X vs cs fe (.raw (.ref rowCls)) cs) (ha : EvL X vs cs pos [e1, e2] [.list (cc.map PV.int), .int f] cs1) (hl : cc.length ≤ 1000000)
    (hst : starEach [e1, e2] X.env = (false, eval e1 X.env) :: starEach [e2] X.env := by rfl) (hpl : (backTo pos (starEach [e2] X.env)).any (·.1) = false := by rfl)
    (he : eval (.Call fe [e1, e2] [] pos) X.env = (do callWith pos (← eval fe X.env) [] (backTo pos (starEach [e1, e2] X.env)) []) := by rfl) : Ev X vs cs (.Call fe [e1, e2] [] pos) (.view cc f) cs1 := fun ts s i => by
  rw [he]
  refine wpAny_bind (wm (hf ts s i) fun v s1 i1 => ?_)
  have := i1.traw; subst this
  have X₀ : c.K.In s.heap := let ⟨F, y⟩ := i; y.inK
  refine callWith_K X₀ K.keep (wm (ha ts s1 i1.pop) fun us s2 ⟨l, ⟨F, i2⟩⟩ => ⟨i2.inK, ?_⟩) hst hpl
  obtain ⟨v1, v2, rfl, h1, h2⟩ := iss2 (i2.args l)
  exact row_make K hb hk i2.popN h1 h2 (fun x s X => K.two s _ _ _ X) hl
theorem ev_row1 (K : InitOk c body) (hb : body = [.Assign [.Attribute (.Name (ks "self") p1) (ks "codes") p2] (.Call (.Name (ks "list") p3) [.Name (ks "codes") p4] [] p5) p6, .Assign [.Attribute (.Name (ks "self") p7) (ks "place") p8] (.Name (ks "place") p9) p10])
    {fe e1 : Expr} {pos : Pos} {cc : List Int} (hk : 2 ≤ k) (hf : Ev X vs cs fe (.raw (.ref rowCls)) cs) (ha : EvL X vs cs pos [e1] [.list (cc.map PV.int)] cs1) (hl : cc.length ≤ 1000000)
    (hst : starEach [e1] X.env = (false, eval e1 X.env) :: starEach [] X.env := by rfl) (hpl : (backTo pos (starEach [] X.env)).any (·.1) = false := by rfl)
    (he : eval (.Call fe [e1] [] pos) X.env = (do callWith pos (← eval fe X.env) [] (backTo pos (starEach [e1] X.env)) []) := by rfl) : Ev X vs cs (.Call fe [e1] [] pos) (.view cc 1) cs1 := fun ts s i => by
  rw [he]
  refine wpAny_bind (wm (hf ts s i) fun v s1 i1 => ?_)
  have := i1.traw; subst this
  have X₀ : c.K.In s.heap := let ⟨F, y⟩ := i; y.inK
  refine callWith_K X₀ K.keep (wm (ha ts s1 i1.pop) fun us s2 ⟨l, ⟨F, i2⟩⟩ => ⟨i2.inK, ?_⟩) hst hpl
  obtain ⟨v1, rfl⟩ := args1 l
  obtain ⟨t, K1⟩ := K.one
  exact row_make K hb hk i2.popN (i2.tmp _ (.head _)) (.int (t := t)) (fun x s X => K1 s _ _ X) hl

/-! what is only known to be so behind an expression -/
noncomputable def EvX (X : Fx c k nk gl cl) (vs : List (Option PV)) (cs : Cells) (e : Expr) (p : PV) (C : Cells → Prop) : Prop :=
  ∀ ts s, Inv X vs cs ts s → wpAny (model c.prog c.w) X.A (eval e X.env) (fun v s' => ∃ cs', C cs' ∧ Inv X vs cs' ((v, p) :: ts) s') (fun _ _ => False) s
theorem ex_assignX {x : Str} {p' pos : Pos} {e : Expr} {p : PV} {C : Cells → Prop} {rest : List Stmt} (h : EvX X vs cs e p C) (g : SetAt nk vs x p vs') (r : ∀ cs', C cs' → Ex X vs' cs' rest N R)
    (hs : swapsWith e (some (.Name x p')) pos.line X.env = pure false := by rfl) : Ex X vs cs (.Assign [.Name x p'] e pos :: rest) N R :=
  ex_cons fun ts s i => wpAny_Assign_Name (wm (h ts s i) fun v s1 ⟨cs', hC, i1⟩ => wm (st_local g i1) fun _ s2 i2 => ⟨vs', cs', i2, r cs' hC⟩) hs
/-- if a != b, the right side known only so -/
theorem ex_if_cmpX {a b : Expr} {op : CmpOp} {p1 pos : Pos} {p q : PV} {x : Bool} {C : Cells → Prop} {body orelse rest : List Stmt} (ha : Ev X vs cs a p cs1) (hb : EvX X vs cs1 b q C) (h : CpR X op p q x)
    (h1 : x = true → ∀ cs', C cs' → Ex X vs cs' (body ++ rest) N R) (h2 : x = false → ∀ cs', C cs' → Ex X vs cs' (orelse ++ rest) N R) (hm : behindInMarks op b = false := by with_unfolding_all rfl) : Ex X vs cs (.If (.Compare a [op] [b] p1) body orelse pos :: rest) N R := by
  intro ts s i
  rw [execs_if]
  refine wpAny_bind (wpAny_standAt (wpAny_bind (wpAny_isTrue_Compare1 (wm (ha ts s i) fun u s1 i1 => wm (hb _ s1 i1) fun v s2 ⟨cs', hC, i2⟩ => wm (h _ _ _ _ _ _ i2) fun y s3 ⟨e, i3⟩ => by
    subst e
    refine wpAny_truthy_bool ?_
    cases x with
    | true => rw [if_pos rfl]; exact h1 rfl cs' hC ts s3 i3.pop2
    | false => rw [if_neg (by decide)]; exact h2 rfl cs' hC ts s3 i3.pop2) hm)))
end
end Mine

end
section
open PySem PySem.W PyProof.Rows
namespace Mine
open PySem PySem.Calls PySem.W PyProof.Rows PySem.Builtin.Str

section
variable {c : Cx} {k : Nat} {nk gl : List Str} {cl : List (Str × Addr)} {X : Fx c k nk gl cl} {F : Fz} {vs vs1 vs2 vs' : List (Option PV)} {cs cs1 cs2 cs3 cs4 : Cells} {ts ts' : List (Value × PV)} {s : Shared}
  {N : List (Option PV) → Cells → Prop} {R : PV → Cells → Prop}

/-- x, y = ([], e) -/
theorem ex_unpack_new {vs2 : Addr → List (Option PV)} {x y : Str} {p1 p2 tpos epos lpos pos : Pos} {kk kk' : Nat} {e2 : Expr} {q : PV} {rest : List Stmt} (he : ∀ cs, Ev X vs cs e2 q cs) (g1 : SetAt nk vs y q vs1) (g2 : ∀ a, SetAt nk vs1 x (.raw (.ref a)) (vs2 a)) (r : ∀ a, Ex X (vs2 a) ((a, .lst []) :: cs) rest N R)
    (hst : starEach [.List [] lpos, e2] X.env = [(false, eval (.List [] lpos) X.env), (false, eval e2 X.env)])
    (h1 : swapsWithSole [.Tuple [.Name x p1, .Name y p2] kk tpos] (.Tuple [.List [] lpos, e2] kk' epos) pos.line X.env = pure false) (h2 : swappedStores [.Tuple [.Name x p1, .Name y p2] kk tpos] (.Tuple [.List [] lpos, e2] kk' epos) X.env = pure (some [x, y])) :
    Ex X vs cs (.Assign [.Tuple [.Name x p1, .Name y p2] kk tpos] (.Tuple [.List [] lpos, e2] kk' epos) pos :: rest) N R :=
  ex_cons fun ts s i => by
    show wpAny _ _ (standAt pos >>= fun _ => swapsWithSole [.Tuple [.Name x p1, .Name y p2] kk tpos] (.Tuple [.List [] lpos, e2] kk' epos) pos.line X.env >>= fun b => if b then _ else eval (.Tuple [.List [] lpos, e2] kk' epos) X.env >>= fun v => swappedStores [.Tuple [.Name x p1, .Name y p2] kk tpos] (.Tuple [.List [] lpos, e2] kk' epos) X.env >>= fun o => assignStores X.env v o _) _ _ _
    rw [h1, h2]
    refine wpAny_bind (wpAny_standAt (wpAny_bind (wpAny_pure ?_)))
    rw [if_neg (by decide)]
    have ev : wpAny (model c.prog c.w) X.A (eval (.Tuple [.List [] lpos, e2] kk' epos) X.env) (fun v s' => ∃ a, Inv X vs ((a, .lst []) :: cs) ((v, .tup [.raw (.ref a), q]) :: ts) s') (fun _ _ => False) s := by
      have el : wpAny (model c.prog c.w) X.A (spliced (backTo epos (starEach [.List [] lpos, e2] X.env))) (fun us s' => ∃ a, us.length = 2 ∧ Inv X vs ((a, .lst []) :: cs) (us.zip [.raw (.ref a), q] ++ ts) s') (fun _ _ => False) s := by
        rw [hst]
        refine spliced_cons (List_ (spliced_nil (wpAny_newObj_type ?_ (by show (0 : Nat) ≤ _; lia))))
        obtain ⟨F, i⟩ := i
        have j := i.newCell (listObj #[] 0) (.lst []) ⟨#[], ⟨0, Heap.get?_push_size _ rfl⟩, .nil⟩
        have j2 : Inv X vs ((s.heap.objs.size, .lst []) :: cs) ((.ref s.heap.objs.size, .raw (.ref s.heap.objs.size)) :: ts) _ := ⟨F, j.push (.raw (.ref s.heap.objs.size)) (.ref s.heap.objs.size) .raw⟩
        exact spliced_cons (wm (he _ _ _ j2) fun u s2 i2 => spliced_nil ⟨s.heap.objs.size, rfl, i2.swap⟩)
      exact wpAny_Tuple (wm el fun us s1 ⟨a, l, ⟨F, i1⟩⟩ => ⟨by rw [sizeLine_eq, l]; lia, by
        have hi := (i1.args (ps := [.raw (.ref a), q]) l).mono (Fz.le_add (o := tupObj us.toArray 0) (i1.new (Nat.le_refl _)))
        exact ⟨a, _, ((i1.popN (ps := [.raw (.ref a), q])).alloc (tupObj us.toArray 0)).push _ _ (.tup (n := 0) Fz.add_self (by simpa using hi))⟩⟩)
    refine wpAny_bind (wm ev fun v s1 ⟨al, F, i1⟩ => wpAny_bind (wpAny_pure ?_))
    obtain ⟨a, us, n, rfl, e, hi⟩ := isTup (i1.tmp _ (.head _))
    unfold assignStores
    refine wpAny_bind (wpAny_rule (wpAny_bind ?_))
    have hz : us.size = 2 := hi.size
    have qq := wpAny_unpackItems_tuple (prog := c.prog) (w := c.w) (A := X.A) (E := fun _ _ => False) (s := s1) (t := a) (items := us) (Q := fun l s' => l = us.toList ∧ ∃ h', Keep s1.heap h' ∧ s' = { s1 with heap := h' }) X.rm.hd ⟨_, i1.on _ _ e, rfl, n, rfl⟩
      (fun h' ext => ⟨rfl, h', fun b o e => ext b o (Nat.ne_of_lt (Heap.lt_size e)) e, rfl⟩)
    rw [hz] at qq
    refine wm qq fun l s2 ⟨hl, h', kp, hs2⟩ => ?_
    subst hl hs2
    have j := i1.keeps (t := s1.toks) kp
    obtain ⟨us⟩ := us
    obtain ⟨u1, u2, rfl, hp, hq⟩ := iss2 (show Iss F [.raw (.ref al), q] us from hi)
    refine wpAny_bind ?_
    show wpAny _ _ (holding [u1] (bindName X.env y u2) >>= fun _ => holding [] (bindName X.env x u1) >>= fun _ => pure ()) _ _ _
    have j2 := (j.pop.push _ _ hp).push _ _ hq
    refine wpAny_bind (wpAny_holding (wpAny_bindName (wm (st_any (.loc g1) j2.inv (.head _)) fun _ s3 i3 => ?_)))
    refine wpAny_bind (wpAny_holding (wpAny_bindName (wm (st_any (.loc (g2 al)) i3 (.tail _ (.head _))) fun _ s4 i4 => ?_)))
    exact wpAny_pure (wpAny_pure ⟨vs2 al, _, i4.pop2, r al⟩)
/-- a call of a function that a name of the frame holds -/
theorem ev_callV {j : Nat} {fe : Expr} {f : Addr} {es : List Expr} {pos : Pos} {ps : List PV} {r : PV} {Q : Fz → Prop} (hf : Ev X vs cs fe (.raw (.ref f)) cs) (hi : ∃ o fd, X.F0 f = some o ∧ o.data = .func fd) (ha : EvL X vs cs pos es ps cs1) (h : FnQ c j (.ref f) Q ps r) (hj : j ≤ k) (hQ : ∀ F, X.F0.le F → Q F)
    (hst : (starEach es X.env).any (·.1) = false := by rfl)
    (he : eval (.Call fe es [] pos) X.env = (do callWith pos (← eval fe X.env) [] (backTo pos (starEach es X.env)) (backToKw pos (keywordEach [] X.env))) := by rfl) : Ev X vs cs (.Call fe es [] pos) r cs1 := fun ts s i => by
  rw [he]
  refine wpAny_bind (wm (hf ts s i) fun v s1 i1 => ?_)
  have := i1.traw; subst this
  obtain ⟨o, fd, ho, hd⟩ := hi
  refine callWith_function (o := o) (fd := fd) (evalArgs_of (star_none hst) (wm (ha ts s1 i1.pop) fun us s2 ⟨l, i2⟩ => ?_))
  refine ⟨⟨let ⟨F, y⟩ := i2; y.on _ _ (y.le _ _ ho), hd⟩, ?_⟩
  exact run_q h hj hQ l i2
end
end Mine

end
section
namespace Mine
open PySem

/-! plain mirrors -/
noncomputable def cod (l : List Nat) (i : Nat) : Int := match l[i]? with | some n => n | none => -1
theorem cod_lt {l : List Nat} {i : Nat} (h : i < l.length) : cod l i = (l[i] : Nat) := by
  unfold cod; rw [List.getElem?_eq_getElem h]
theorem cod_ge {l : List Nat} {i : Nat} (h : l.length ≤ i) : cod l i = -1 := by
  unfold cod; rw [List.getElem?_eq_none h]
abbrev vw (l : List Nat) (f : Int) : PV := .view (l.map fun n : Nat => (n : Int)) f
noncomputable def isB (c : Int) : Bool := [32, 9].any (· == c)
noncomputable def notN (c : Int) : Bool := !decide (c = 10)
/-- backwards while q -/
noncomputable def bwd (q : Int → Bool) (l : List Nat) : Nat → Nat
  | 0 => 0
  | j + 1 => if q (cod l j) then bwd q l j else j + 1
theorem bwd_le (q : Int → Bool) (l : List Nat) : ∀ j, bwd q l j ≤ j
  | 0 => Nat.le_refl _
  | j + 1 => by unfold bwd; split; exact Nat.le_succ_of_le (bwd_le q l j); exact Nat.le_refl _
/-- forwards while q -/
noncomputable def fwd (q : Int → Bool) (l : List Nat) (i : Nat) : Nat := i + ((l.drop i).takeWhile fun n : Nat => q n).length
theorem fwd_le (q : Int → Bool) (l : List Nat) {i : Nat} (h : i ≤ l.length) : fwd q l i ≤ l.length := by
  have h1 : ((l.drop i).takeWhile fun n : Nat => q n).length ≤ (l.drop i).length := (List.takeWhile_prefix _).length_le
  rw [List.length_drop] at h1
  unfold fwd; lia
theorem fwd_ge (q : Int → Bool) (l : List Nat) (i : Nat) : i ≤ fwd q l i := Nat.le_add_right _ _
theorem fwd_step (q : Int → Bool) {l : List Nat} {i : Nat} (h : i < l.length) (hq : q (cod l i) = true) : fwd q l i = fwd q l (i + 1) := by
  unfold fwd
  rw [List.drop_eq_getElem_cons h, List.takeWhile_cons, if_pos (by rw [← cod_lt h]; exact hq), List.length_cons]
  lia
theorem fwd_stop (q : Int → Bool) {l : List Nat} {i : Nat} (h : i < l.length → q (cod l i) = false) : fwd q l i = i := by
  unfold fwd
  by_cases hi : i < l.length
  · rw [List.drop_eq_getElem_cons hi, List.takeWhile_cons, if_neg (by rw [← cod_lt hi, h hi]; decide)]; rfl
  · rw [List.drop_eq_nil_of_le (by lia)]; rfl
/-- the width of a sign -/
noncomputable def wat (code col w : Int) : Int := if code = 9 then w - col % w else if code < 32 ∨ code = 127 then 2 else if 127 < code ∧ code < 160 then 4 else 1
noncomputable def colf (w : Int) (c : Int) (n : Nat) : Int := c + wat n c w
noncomputable def colN (w : Int) (seg : List Nat) (c : Int) : Int := seg.foldl (colf w) c
theorem wat_pos {code col w : Int} (hw : 0 < w) : 0 < wat code col w ∧ wat code col w ≤ w + 4 := by
  have h1 := Int.emod_nonneg col (show w ≠ 0 by lia)
  have h2 := Int.emod_lt_of_pos col hw
  unfold wat
  split
  · lia
  · split
    · lia
    · split <;> lia
theorem colN_le {w : Int} (hw : 0 < w) : ∀ (seg : List Nat) (c : Int), c + seg.length ≤ colN w seg c ∧ colN w seg c ≤ c + seg.length * (w + 4)
  | [], c => by simp [colN]
  | n :: r, c => by
    have ih := colN_le hw r (colf w c n)
    have h := wat_pos (code := n) (col := c) hw
    show c + ((r.length + 1 : Nat) : Int) ≤ colN w r (colf w c n) ∧ colN w r (colf w c n) ≤ c + ((r.length + 1 : Nat) : Int) * (w + 4)
    have e : ((r.length + 1 : Nat) : Int) * (w + 4) = r.length * (w + 4) + (w + 4) := by push_cast; rw [Int.add_mul, Int.one_mul]
    rw [e]
    unfold colf at ih ⊢
    push_cast
    generalize (r.length : Int) * (w + 4) = z at *
    lia
theorem colN_app (w : Int) (a b : List Nat) (c : Int) : colN w (a ++ b) c = colN w b (colN w a c) := List.foldl_append ..
noncomputable def isLB (l : List Nat) (i : Nat) : Bool := decide (i = 0) || decide (cod l (i - 1) = 10)
noncomputable def isLE (l : List Nat) (i : Nat) : Bool := decide (i = l.length) || decide (cod l i = 10)
/-- the first sign of the line that is no blank -/
noncomputable def inE (l : List Nat) (i : Nat) : Nat := fwd isB l (bwd notN l i)
noncomputable def nx (l : List Nat) (i : Nat) : Option Nat := if fwd notN l i < l.length then some (fwd notN l i + 1) else none
noncomputable def plc (f : Int) : Option Nat → Int
  | some i => f + i
  | none => -1
end Mine

end
section
namespace Mine
open PySem

noncomputable def colAt (w : Int) (l : List Nat) (i : Nat) : Int := colN w ((l.take i).drop (bwd notN l i)) 0
noncomputable def pla (w col : Int) : List Nat → Int → Nat × Int
  | [], r => (0, r)
  | n :: t, r => if r < col then ((pla w col t (colf w r n)).1 + 1, (pla w col t (colf w r n)).2) else (0, r)
noncomputable def indAt (w : Int) (l : List Nat) (i : Nat) : Int := colN w ((l.drop (bwd notN l i)).takeWhile fun n : Nat => isB n) 0
noncomputable def tabsN (col want w : Int) (tabs : Bool) : Int := if tabs && decide (col < want) then want / w - col / w else 0
noncomputable def bt (col want w : Int) (tabs : Bool) : List Nat :=
  if 0 < tabsN col want w tabs then List.replicate (tabsN col want w tabs).toNat 9 ++ List.replicate (want % w).toNat 32 else List.replicate (want - col).toNat 32
theorem div_bd {a w M : Int} (hw : 0 < w) (h1 : -M ≤ a) (h2 : a ≤ M) : -M ≤ a / w ∧ a / w ≤ M := by
  constructor
  · apply (Int.le_ediv_iff_mul_le hw).mpr
    have : -M * w ≤ -M := by
      have : M * 1 ≤ M * w := Int.mul_le_mul_of_nonneg_left hw (by lia)
      rw [Int.neg_mul]; lia
    lia
  · by_cases h : 0 ≤ a
    · have := Int.ediv_le_self w h; lia
    · have := Int.ediv_neg_of_neg_of_pos (show a < 0 by lia) hw; lia
theorem mod_bd {a w : Int} (hw : 0 < w) : 0 ≤ a % w ∧ a % w < w := ⟨Int.emod_nonneg _ (by lia), Int.emod_lt_of_pos _ hw⟩
/-- edits -/
abbrev Edit := Nat × Nat × List Nat
noncomputable def edt (f : Int) (e : Edit) : PV := .tup [.int (f + e.1), .int (f + e.2.1), .list (e.2.2.map fun n : Nat => .int n)]
noncomputable def st (l : List Nat) (e : Nat) : Nat → Option Nat → List Nat
  | _, none => []
  | 0, some _ => []
  | k + 1, some i => if i < e then i :: st l e k (nx l i) else []
noncomputable def starts (l : List Nat) (lo hi : Nat) : List Nat := st l hi hi (if isLB l lo then some lo else nx l lo)
theorem nx_gt {l : List Nat} {i j : Nat} (h : nx l i = some j) : i < j ∧ j ≤ l.length := by
  have := fwd_ge notN l i
  unfold nx at h
  split at h
  · cases h; lia
  · cases h
theorem st_mem {l : List Nat} {e : Nat} : ∀ {k : Nat} {o : Option Nat} {j : Nat}, j ∈ st l e k o → j < e ∧ (o = some j ∨ j ≤ l.length)
  | k, none, j, h => by simp [st] at h
  | 0, some i, j, h => by simp [st] at h
  | k + 1, some i, j, h => by
    unfold st at h
    split at h
    · rcases List.mem_cons.mp h with rfl | h
      · exact ⟨by assumption, .inl rfl⟩
      · obtain ⟨h1, h2⟩ := st_mem h
        refine ⟨h1, .inr ?_⟩
        rcases h2 with h2 | h2
        · exact (nx_gt h2).2
        · exact h2
    · simp at h
theorem starts_mem {l : List Nat} {lo hi j : Nat} (hlo : lo ≤ l.length) (h : j ∈ starts l lo hi) : j < hi ∧ j ≤ l.length := by
  obtain ⟨h1, h2⟩ := st_mem h
  refine ⟨h1, ?_⟩
  rcases h2 with h2 | h2
  · split at h2
    · cases h2; exact hlo
    · exact (nx_gt h2).2
  · exact h2
theorem st_length {l : List Nat} {e : Nat} : ∀ {k : Nat} {o : Option Nat}, (st l e k o).length ≤ k
  | k, none => by simp [st]
  | 0, some i => by simp [st]
  | k + 1, some i => by
    unfold st
    split
    · simp; exact st_length
    · simp
/-- the edit of one line -/
noncomputable def lineE (l : List Nat) (w : Int) (tabs : Bool) (i : Nat) (col : Int) : Edit := (i, inE l i, bt 0 (if col > 0 then col else 0) w tabs)
noncomputable def rigidE (l : List Nat) (lby w : Int) (tabs : Bool) (i : Nat) : Edit := if isLE l (inE l i) then (i, fwd notN l i, []) else lineE l w tabs i (indAt w l i + lby)
noncomputable def regionE (l : List Nat) (col w : Int) (tabs : Bool) (i : Nat) : Edit := lineE l w tabs i (if isLE l (inE l i) then 0 else col)
noncomputable def untabE (w : Int) (l : List Nat) (lo : Nat) : Nat → List Edit
  | 0 => []
  | k + 1 => untabE w l lo k ++ if cod l (lo + k) = 9 then [(lo + k, lo + k + 1, List.replicate (w - colAt w l (lo + k) % w).toNat 32)] else []
theorem untabE_length (w : Int) (l : List Nat) (lo : Nat) : ∀ k, (untabE w l lo k).length ≤ k
  | 0 => by simp [untabE]
  | k + 1 => by
    have ih := untabE_length w l lo k
    unfold untabE
    rw [List.length_append]
    split <;> simp <;> lia
noncomputable def tabB (l : List Nat) (hi j : Nat) : Nat := if cod l j = 32 then min hi (fwd isB l j) else j + 1
noncomputable def tabE (w : Int) (l : List Nat) (hi : Nat) : Nat → Nat → List Edit
  | 0, _ => []
  | k + 1, j => if j < hi then (if j + 1 < tabB l hi j ∧ colAt w l j / w ≠ colAt w l (tabB l hi j) / w then [(j, tabB l hi j, bt (colAt w l j) (colAt w l (tabB l hi j)) w true)] else []) ++ tabE w l hi k (tabB l hi j) else []
theorem tabE_length (w : Int) (l : List Nat) (hi : Nat) : ∀ k j, (tabE w l hi k j).length ≤ k
  | 0, j => by simp [tabE]
  | k + 1, j => by
    have ih := tabE_length w l hi k (tabB l hi j)
    unfold tabE
    split
    · rw [List.length_append]; split <;> simp <;> lia
    · simp
theorem tabB_gt {l : List Nat} {hi j : Nat} (h : j < hi) (hl : j < l.length) : j < tabB l hi j := by
  unfold tabB
  split
  · have := fwd_step isB hl (by rename_i e; rw [e]; decide)
    have := fwd_ge isB l (j + 1)
    lia
  · lia
theorem tabB_le {l : List Nat} {hi j : Nat} (h : j < hi) : tabB l hi j ≤ hi := by
  unfold tabB
  split <;> lia
theorem colAt_bd {w : Int} (hw : 0 < w) (l : List Nat) (i : Nat) : 0 ≤ colAt w l i ∧ colAt w l i ≤ l.length * (w + 4) := by
  have h := colN_le hw ((l.take i).drop (bwd notN l i)) 0
  unfold colAt
  have h1 : ((l.take i).drop (bwd notN l i)).length ≤ l.length := by simp; lia
  generalize ((l.take i).drop (bwd notN l i)).length = n at *
  have h2 : (n : Int) * (w + 4) ≤ l.length * (w + 4) := Int.mul_le_mul_of_nonneg_right (by lia) (by lia)
  lia
end Mine

end
section
namespace Mine
open PySem
/-- the start of the last line with text above: j is one behind the place looked at -/
noncomputable def lwt (l : List Nat) : Nat → Nat → Option Nat
  | 0, _ => none
  | _ + 1, 0 => none
  | k + 1, j + 1 => if bwd notN l j < j then some (bwd notN l j) else lwt l k (bwd notN l j)
theorem lwt_le {l : List Nat} : ∀ {k j a : Nat}, lwt l k j = some a → a ≤ j
  | 0, _, _, h => by cases h
  | _ + 1, 0, _, h => by cases h
  | k + 1, j + 1, a, h => by
    have := bwd_le notN l j
    unfold lwt at h
    split at h
    · cases h; lia
    · have := lwt_le h; lia
theorem pla_le (w col : Int) : ∀ (t : List Nat) (r : Int), (pla w col t r).1 ≤ t.length
  | [], r => Nat.le_refl _
  | n :: t, r => by
    unfold pla
    split
    · exact Nat.succ_le_succ (pla_le w col t _)
    · exact Nat.zero_le _
theorem pla_zero (w col : Int) : ∀ (t : List Nat) (r : Int), (pla w col t r).1 = 0 → (pla w col t r).2 = r
  | [], r, _ => rfl
  | n :: t, r, h => by
    unfold pla at h ⊢
    split
    · rename_i hr; rw [if_pos hr] at h; simp at h
    · rfl
noncomputable def eqB (b : Bool) (c : Int) : Bool := isB c == b
/-- relative_column with the first sign not taken -/
noncomputable def relAt (w : Int) (l : List Nat) (i a : Nat) : Nat × Int := pla w (colAt w l i) ((l.take (fwd notN l a)).drop (bwd notN l a)) 0
noncomputable def relSt (w : Int) (l : List Nat) (i a : Nat) : Nat := if (relAt w l i a).2 > colAt w l i then bwd notN l a + (relAt w l i a).1 - 1 else bwd notN l a + (relAt w l i a).1
noncomputable def relSk (w : Int) (l : List Nat) (i a : Nat) : Nat := if isB (cod l (relSt w l i a)) then relSt w l i a else fwd (eqB false) (l.take (fwd notN l a)) (relSt w l i a)
noncomputable def relEd (w : Int) (l : List Nat) (i a : Nat) : Nat := fwd (eqB true) (l.take (fwd notN l a)) (relSk w l i a)
noncomputable def relV (w : Int) (l : List Nat) (i : Nat) : Int := match lwt l l.length (bwd notN l i) with
  | none => -1
  | some a => if (relAt w l i a).2 < colAt w l i then -1 else if relEd w l i a = fwd notN l a then -1 else colAt w l (relEd w l i a)
noncomputable def stopE (w : Int) (tabs : Bool) (l : List Nat) (i : Nat) : Edit := (bwd isB l i, i, bt (colAt w l (bwd isB l i)) ((colAt w l i / w + 1) * w) w tabs)
noncomputable def splitE (w : Int) (tabs : Bool) (l : List Nat) (i : Nat) : Edit := (fwd isB l i, fwd isB l i, 10 :: bt 0 (colAt w l (fwd isB l i)) w tabs)
end Mine

end
section
namespace Mine
open PySem PySem.W

theorem cut_take {α : Type} (l : List α) {i : Int} (h : 0 ≤ i) : cut l none (some i) = l.take i.toNat := by
  unfold cut
  have h1 : kms_lo none l.length = 0 := rfl
  have h2 : kms_hi (some i) l.length = min i.toNat l.length := by unfold kms_hi; simp; lia
  rw [h1, h2, List.drop_zero, Nat.sub_zero]
  apply List.take_eq_take_iff.mpr
  lia
theorem cut_drop {α : Type} (l : List α) {i : Int} (h : 0 ≤ i) : cut l (some i) none = l.drop i.toNat := by
  unfold cut
  have h1 : kms_lo (some i) l.length = min i.toNat l.length := by unfold kms_lo; simp; lia
  have h2 : kms_hi none l.length = l.length := rfl
  rw [h1, h2]
  by_cases hi : i.toNat ≤ l.length
  · rw [Nat.min_eq_left hi, List.take_of_length_le (by rw [List.length_drop]; exact Nat.le_refl _)]
  · rw [Nat.min_eq_right (by lia), List.drop_of_length_le (Nat.le_refl _), List.drop_of_length_le (by lia)]; simp
theorem cut_mid {α : Type} (l : List α) {i j : Int} (hi : 0 ≤ i) (hj : 0 ≤ j) : cut l (some i) (some j) = (l.take j.toNat).drop i.toNat := by
  unfold cut
  have h1 : kms_lo (some i) l.length = min i.toNat l.length := by unfold kms_lo; simp; lia
  have h2 : kms_hi (some j) l.length = min j.toNat l.length := by unfold kms_hi; simp; lia
  rw [h1, h2, List.drop_take]
  by_cases h : i.toNat ≤ l.length
  · rw [Nat.min_eq_left h]
    apply List.take_eq_take_iff.mpr
    rw [List.length_drop]; lia
  · rw [show min i.toNat l.length = l.length from by lia, List.drop_of_length_le (Nat.le_refl _), List.drop_of_length_le (show l.length ≤ i.toNat by lia)]; simp
noncomputable def appE (t : List Nat) (e : Edit) : List Nat := t.take e.1 ++ e.2.2 ++ t.drop e.2.1
noncomputable def done (t : List Nat) (es : List Edit) : List Nat := es.foldl appE t
theorem appE_length (t : List Nat) (e : Edit) (h : e.1 ≤ e.2.1) : (appE t e).length ≤ t.length + e.2.2.length := by
  unfold appE
  rw [List.length_append, List.length_append, List.length_take, List.length_drop]
  lia
theorem done_snoc (t : List Nat) (es : List Edit) (e : Edit) : done t (es ++ [e]) = appE (done t es) e := by
  unfold done; rw [List.foldl_append]; rfl
theorem done_length (t : List Nat) (B : Nat) : ∀ es : List Edit, (∀ e ∈ es, e.1 ≤ e.2.1 ∧ e.2.2.length ≤ B) → (done t es).length ≤ t.length + es.length * B := by
  intro es
  induction es generalizing t with
  | nil => intro _; simp [done]
  | cons e es ih =>
    intro h
    have h1 := appE_length t e (h e (.head _)).1
    have h2 := (h e (.head _)).2
    have h3 := ih (appE t e) fun e' he => h e' (.tail _ he)
    show (done (appE t e) es).length ≤ t.length + (es.length + 1) * B
    rw [Nat.add_mul, Nat.one_mul]
    generalize es.length * B = z at *
    lia
noncomputable def colOf (w : Nat) (l : List Nat) : Int := ((expt w 0 l).length : Nat)
theorem expt_len (w : Nat) (l : List Nat) (hw : 0 < w ∧ w ≤ 300) (h : l.length ≤ 50000) : l.length * w ≤ 15000000 ∧ (expt w 0 l).length ≤ 15000000 := by
  have h1 : l.length * w ≤ 50000 * 300 := Nat.mul_le_mul h hw.2
  have h2 := expt_length w l 0 hw.1
  lia
/-- the blanks ahead -/
noncomputable def lead (l : List Nat) : List Nat := l.takeWhile bl
theorem lead_eq (l : List Nat) : l.take (((l.length : Nat) : Int) - ((lstr l).length : Nat)).toNat = lead l := by
  have h := List.takeWhile_append_dropWhile (p := bl) (l := l)
  have h2 : (l.takeWhile bl).length + (lstr l).length = l.length := by rw [← List.length_append]; exact congrArg List.length h
  rw [show (((l.length : Nat) : Int) - ((lstr l).length : Nat)).toNat = (l.takeWhile bl).length by lia]
  conv => lhs; arg 2; rw [← h]
  rw [List.take_left]; rfl
theorem lstr_le (l : List Nat) : (lstr l).length ≤ l.length := by
  unfold lstr; exact (List.dropWhile_sublist _).length_le
theorem lead_le (l : List Nat) : (lead l).length ≤ l.length := (List.takeWhile_prefix _).length_le
noncomputable def indd (line : List Nat) (col w : Int) (tabs : Bool) : List Nat :=
  if lstr line = [] then [] else
    (if tabs then List.replicate ((if col > 0 then col else 0) / w).toNat 9 ++ List.replicate ((if col > 0 then col else 0) % w).toNat 32 else List.replicate (if col > 0 then col else 0).toNat 32) ++ lstr line
/-! the deck -/
noncomputable def strip0 : List Int → List Int
  | [] => []
  | [x] => [x]
  | x :: y :: r => if x = 0 then strip0 (y :: r) else x :: y :: r
noncomputable def draw (ns : List Int) (m : Int) : Int × List Int := match strip0 ns with
  | [] => (0, [])
  | [x] => ((x * 48271 + 11) % 2147483647 / 64 % m, [(x * 48271 + 11) % 2147483647])
  | x :: y :: r => (x % m, x / m :: y :: r)
structure DeckOk (ns : List Int) : Prop where
  ne : ns ≠ []
  len : ns.length ≤ 1000
  bd : ∀ x ∈ ns, 0 ≤ x ∧ x < 10 ^ 60
theorem DeckOk.tail {x y : Int} {r : List Int} (h : DeckOk (x :: y :: r)) : DeckOk (y :: r) := ⟨by simp, by have := h.len; simp at this ⊢; lia, fun z hz => h.bd z (.tail _ hz)⟩
theorem strip0_ok : ∀ {ns : List Int}, DeckOk ns → DeckOk (strip0 ns)
  | [], h => h
  | [_], h => h
  | x :: y :: r, h => by
    unfold strip0
    split
    · exact strip0_ok h.tail
    · exact h
theorem draw_ok {ns : List Int} (h : DeckOk ns) {m : Int} (hm : 0 < m) : 0 ≤ (draw ns m).1 ∧ (draw ns m).1 < m ∧ DeckOk (draw ns m).2 := by
  have h1 := strip0_ok h
  unfold draw
  revert h1
  match strip0 ns with
  | [] => intro h1; exact absurd rfl h1.ne
  | [x] =>
    intro h1
    refine ⟨(mod_bd hm).1, (mod_bd hm).2, by simp, by simp, fun y hy => ?_⟩
    have : y = (x * 48271 + 11) % 2147483647 := by simpa using hy
    subst this
    have := mod_bd (a := x * 48271 + 11) (w := 2147483647) (by decide)
    lia
  | x :: y :: r =>
    intro h1
    have hx := h1.bd x (.head _)
    refine ⟨(mod_bd hm).1, (mod_bd hm).2, by simp, by have := h1.len; simpa using this, fun z hz => ?_⟩
    rcases List.mem_cons.mp hz with rfl | hz
    · have := Int.ediv_nonneg hx.1 (Int.le_of_lt hm)
      have := Int.ediv_le_self m hx.1
      lia
    · exact h1.bd z (.tail _ hz)
end Mine

end
section
namespace Mine
open PySem

/-! lines -/
theorem spl_mid (p x : List Nat) : spl (p ++ 10 :: x) = spl p ++ spl x := by
  induction p with
  | nil => simp [spl]
  | cons n p ih =>
    rw [List.cons_append, spl, spl, ih]
    split
    · rfl
    · have := spl_ne p
      revert this
      cases spl p with
      | nil => intro h; exact absurd rfl h
      | cons y ys => intro _; rfl
/-- a text in front of a line -/
noncomputable def Ends (p : List Nat) : Prop := p = [] ∨ ∃ p', p = p' ++ [10]
theorem spl_last {p x : List Nat} (hp : Ends p) (hx : 10 ∉ x) : (spl (p ++ x)).getLast? = some x := by
  rcases hp with rfl | ⟨p', rfl⟩
  · rw [List.nil_append, spl_one hx]; rfl
  · rw [List.append_assoc]
    show (spl (p' ++ 10 :: x)).getLast? = _
    rw [spl_mid, spl_one hx, List.getLast?_append]; rfl
theorem notN_iff (n : Nat) : notN n = true ↔ n ≠ 10 := by
  unfold notN; simp; lia
theorem isB_bl (n : Nat) : isB (n : Int) = bl n := by
  unfold isB bl
  simp only [List.any_cons, List.any_nil, Bool.or_false]
  congr 1 <;> (rw [Bool.eq_iff_iff]; simp; lia)
theorem cod_get {l : List Nat} {i : Nat} (h : i < l.length) : cod l i = (l[i] : Nat) := cod_lt h
theorem bwd_spec (q : Int → Bool) (l : List Nat) : ∀ i, (∀ j, bwd q l i ≤ j → j < i → q (cod l j) = true) ∧ (bwd q l i = 0 ∨ q (cod l (bwd q l i - 1)) = false)
  | 0 => ⟨fun j _ h => absurd h (Nat.not_lt_zero _), .inl rfl⟩
  | i + 1 => by
    have ih := bwd_spec q l i
    unfold bwd
    split
    · rename_i h
      refine ⟨fun j h1 h2 => ?_, ih.2⟩
      by_cases hj : j < i
      · exact ih.1 j h1 hj
      · have : j = i := by lia
        subst this; exact h
    · rename_i h
      exact ⟨fun j h1 h2 => by lia, .inr (by rw [Nat.add_sub_cancel]; simpa using h)⟩
theorem take_len {l : List Nat} {i : Nat} (h : i ≤ l.length) : (l.take i).length = i := by rw [List.length_take]; lia
/-- the head of the line at i -/
noncomputable def hdL (l : List Nat) (i : Nat) : List Nat := (l.take i).drop (bwd notN l i)
theorem hdL_dec {l : List Nat} {i : Nat} (h : i ≤ l.length) : l.take i = l.take (bwd notN l i) ++ hdL l i := by
  have hb := bwd_le notN l i
  have := List.take_append_drop (bwd notN l i) (l.take i)
  rw [List.take_take, Nat.min_eq_left hb] at this
  exact this.symm
theorem hdL_free {l : List Nat} {i : Nat} (h : i ≤ l.length) : 10 ∉ hdL l i := by
  intro hm
  obtain ⟨j, hj, e⟩ := List.getElem_of_mem hm
  unfold hdL at hj e
  rw [List.length_drop, take_len h] at hj
  rw [List.getElem_drop, List.getElem_take] at e
  have := (bwd_spec notN l i).1 (bwd notN l i + j) (by lia) (by lia)
  rw [cod_get (by lia), e] at this
  exact absurd this (by decide)
theorem ends_bwd {l : List Nat} {i : Nat} (h : i ≤ l.length) : Ends (l.take (bwd notN l i)) := by
  have hb := bwd_le notN l i
  rcases (bwd_spec notN l i).2 with h0 | h0
  · left; rw [h0]; rfl
  · by_cases hz : bwd notN l i = 0
    · left; rw [hz]; rfl
    · right
      obtain ⟨b, e⟩ : ∃ b, bwd notN l i = b + 1 := ⟨bwd notN l i - 1, by lia⟩
      rw [e, Nat.add_sub_cancel] at h0
      rw [e] at hb ⊢
      have hlt : b < l.length := by lia
      refine ⟨l.take b, ?_⟩
      rw [← List.take_append_getElem hlt]
      rw [cod_get hlt] at h0
      have : l[b] = 10 := by
        apply Decidable.byContradiction; intro hn
        rw [(notN_iff _).mpr hn] at h0; cases h0
      rw [this]
theorem last_hdL {l : List Nat} {i : Nat} (h : i ≤ l.length) : (spl (l.take i)).getLast? = some (hdL l i) := by
  rw [hdL_dec h]; exact spl_last (ends_bwd h) (hdL_free h)

/-! columns -/
/-- the column behind a text -/
noncomputable def endc (w : Nat) (c : Nat) (l : List Nat) : Nat := l.foldl (fun c n => if n = 9 then c + (w - c % w) else if n = 10 then 0 else c + 1) c
theorem endc_app (w c : Nat) (a b : List Nat) : endc w c (a ++ b) = endc w (endc w c a) b := List.foldl_append ..
theorem endc_cons (w c n : Nat) (r : List Nat) : endc w c (n :: r) = endc w (if n = 9 then c + (w - c % w) else if n = 10 then 0 else c + 1) r := rfl
/-- the signs of the law's texts -/
noncomputable def AB (l : List Nat) : Prop := ∀ n ∈ l, n = 97 ∨ n = 98 ∨ n = 32 ∨ n = 9 ∨ n = 10
theorem AB.tail {n : Nat} {r : List Nat} (h : AB (n :: r)) : AB r := fun m hm => h m (.tail _ hm)
theorem AB.take {l : List Nat} (h : AB l) (i : Nat) : AB (l.take i) := fun n hn => h n (List.mem_of_mem_take hn)
theorem AB.drop {l : List Nat} (h : AB l) (i : Nat) : AB (l.drop i) := fun n hn => h n (List.mem_of_mem_drop hn)
theorem AB.app {a b : List Nat} (h : AB a) (h' : AB b) : AB (a ++ b) := fun n hn => (List.mem_append.mp hn).elim (h n) (h' n)
theorem AB.rep9 (n : Nat) : AB (List.replicate n 9) := fun m hm => by rw [List.eq_of_mem_replicate hm]; simp
theorem AB.rep32 (n : Nat) : AB (List.replicate n 32) := fun m hm => by rw [List.eq_of_mem_replicate hm]; simp
theorem expt_app (w : Nat) : ∀ (a b : List Nat) (c : Nat), AB a → expt w c (a ++ b) = expt w c a ++ expt w (endc w c a) b
  | [], b, c, _ => rfl
  | n :: r, b, c, h => by
    rw [List.cons_append, expt, expt, endc_cons]
    by_cases h9 : n = 9
    · rw [if_pos h9, if_pos h9, if_pos h9, expt_app w r b _ h.tail, List.append_assoc]
    · rw [if_neg h9, if_neg h9, if_neg h9]
      have h13 : (n = 10 ∨ n = 13) ↔ n = 10 := by have := h n (.head _); lia
      by_cases h10 : n = 10
      · rw [if_pos (h13.mpr h10), if_pos h10, expt_app w r b _ h.tail]; rfl
      · rw [if_neg fun q => h10 (h13.mp q), if_neg h10, expt_app w r b _ h.tail]; rfl
theorem expt_len_endc (w : Nat) : ∀ (l : List Nat) (c : Nat), AB l → 10 ∉ l → c + (expt w c l).length = endc w c l
  | [], c, _, _ => rfl
  | n :: r, c, h, h10 => by
    have hn : n ≠ 10 := fun e => h10 (by simp [e])
    have hr : 10 ∉ r := fun m => h10 (.tail _ m)
    rw [expt, endc_cons]
    by_cases h9 : n = 9
    · rw [if_pos h9, if_pos h9, List.length_append, List.length_replicate, ← expt_len_endc w r _ h.tail hr]; lia
    · have : ¬ (n = 10 ∨ n = 13) := by have := h n (.head _); lia
      rw [if_neg h9, if_neg h9, if_neg this, if_neg hn, List.length_cons, ← expt_len_endc w r _ h.tail hr]; lia
theorem colN_endc {w : Nat} (hw : 0 < w) : ∀ (l : List Nat) (c : Nat), AB l → 10 ∉ l → colN w l c = (endc w c l : Nat)
  | [], c, _, _ => rfl
  | n :: r, c, h, h10 => by
    have hn : n ≠ 10 := fun e => h10 (by simp [e])
    have hr : 10 ∉ r := fun m => h10 (.tail _ m)
    have e : colf w c n = ((if n = 9 then c + (w - c % w) else if n = 10 then 0 else c + 1 : Nat) : Int) := by
      unfold colf wat
      have hm := Nat.mod_lt c hw
      rw [if_neg hn]
      by_cases h9 : n = 9
      · subst h9; simp; lia
      · rw [if_neg h9, if_neg (by lia)]
        have := h n (.head _)
        rw [if_neg (by lia), if_neg (by lia)]; simp
    show colN w r (colf w c n) = _
    rw [e, endc_cons]
    exact colN_endc hw r _ h.tail hr
theorem colOf_endc (w : Nat) {l : List Nat} (h : AB l) (h10 : 10 ∉ l) : colOf w l = (endc w 0 l : Nat) := by
  unfold colOf; rw [← expt_len_endc w l 0 h h10, Nat.zero_add]
/-- only the last line counts -/
theorem endc_line (w c : Nat) {p : List Nat} (hp : Ends p) (x : List Nat) (hc : p = [] → c = 0) : endc w c (p ++ x) = endc w 0 x := by
  rcases hp with rfl | ⟨p', rfl⟩
  · rw [hc rfl]; rfl
  · rw [endc_app, endc_app]; rfl
theorem endc_take (w : Nat) {l : List Nat} {i : Nat} (h : i ≤ l.length) : endc w 0 (l.take i) = endc w 0 (hdL l i) := by
  rw [hdL_dec h]; exact endc_line w 0 (ends_bwd h) _ fun _ => rfl
theorem colAt_endc {w : Nat} (hw : 0 < w) {l : List Nat} (hl : AB l) {i : Nat} (h : i ≤ l.length) : colAt w l i = (endc w 0 (l.take i) : Nat) := by
  rw [endc_take w h]
  exact colN_endc hw (hdL l i) 0 ((hl.take i).drop _) (hdL_free h)
theorem colOf_last {w : Nat} {l : List Nat} (hl : AB l) {i : Nat} (h : i ≤ l.length) : colOf w (hdL l i) = (endc w 0 (l.take i) : Nat) := by
  rw [endc_take w h]
  exact colOf_endc w ((hl.take i).drop _) (hdL_free h)
/-- blanks -/
noncomputable def Bl (l : List Nat) : Prop := ∀ n ∈ l, n = 32 ∨ n = 9
theorem Bl.ab {l : List Nat} (h : Bl l) : AB l := fun n hn => by rcases h n hn with h | h <;> simp [h]
theorem Bl.free {l : List Nat} (h : Bl l) : 10 ∉ l := fun hm => by have := h 10 hm; lia
theorem Bl.app {a b : List Nat} (h : Bl a) (h' : Bl b) : Bl (a ++ b) := fun n hn => (List.mem_append.mp hn).elim (h n) (h' n)
theorem Bl.rep9 (n : Nat) : Bl (List.replicate n 9) := fun m hm => .inr (List.eq_of_mem_replicate hm)
theorem Bl.rep32 (n : Nat) : Bl (List.replicate n 32) := fun m hm => .inl (List.eq_of_mem_replicate hm)
theorem Bl.all {l : List Nat} (h : Bl l) : ∀ n ∈ l, bl n = true := fun n hn => by rcases h n hn with h | h <;> simp [bl, h]
theorem bl_iff {n : Nat} : bl n = true ↔ n = 32 ∨ n = 9 := by simp [bl]
theorem expt_bl (w : Nat) : ∀ (l : List Nat) (c : Nat), Bl l → expt w c l = List.replicate (endc w c l - c) 32 ∧ c ≤ endc w c l
  | [], c, _ => by simp [expt, endc]
  | n :: r, c, h => by
    have hr : Bl r := fun m hm => h m (.tail _ hm)
    rw [expt, endc_cons]
    rcases h n (.head _) with rfl | rfl
    · obtain ⟨e, l1⟩ := expt_bl w r (c + 1) hr
      rw [if_neg (by decide), if_neg (by decide), if_neg (by decide), if_neg (by decide), e]
      refine ⟨?_, by lia⟩
      rw [show endc w (c + 1) r - c = (endc w (c + 1) r - (c + 1)) + 1 by lia, List.replicate_succ]
    · obtain ⟨e, l1⟩ := expt_bl w r (c + (w - c % w)) hr
      rw [if_pos rfl, if_pos rfl, e]
      refine ⟨?_, by lia⟩
      rw [List.replicate_append_replicate]; congr 1; lia
theorem endc_rep32 (w : Nat) : ∀ (n c : Nat), endc w c (List.replicate n 32) = c + n
  | 0, c => rfl
  | n + 1, c => by
    rw [List.replicate_succ, endc_cons, if_neg (by decide), if_neg (by decide), endc_rep32 w n]; lia
theorem endc_rep9 {w : Nat} (hw : 0 < w) : ∀ (n c : Nat), 0 < n → endc w c (List.replicate n 9) = (c / w + n) * w
  | 1, c, _ => by
    have e : endc w c (List.replicate 1 9) = c + (w - c % w) := rfl
    rw [e]
    have h1 := Nat.div_add_mod c w
    have h2 := Nat.mod_lt c hw
    rw [Nat.add_mul, Nat.one_mul, Nat.mul_comm (c / w) w]; lia
  | n + 2, c, _ => by
    rw [List.replicate_succ, endc_cons, if_pos rfl, endc_rep9 hw (n + 1) _ (Nat.succ_pos _)]
    have h1 := Nat.div_add_mod c w
    have h2 := Nat.mod_lt c hw
    have e : c + (w - c % w) = (c / w + 1) * w := by rw [Nat.add_mul, Nat.one_mul, Nat.mul_comm (c / w) w]; lia
    rw [e, Nat.mul_div_cancel _ hw]
    congr 1; lia
/-- blanks_to leads to the wanted column -/
theorem bt_bl (col want w : Int) (tabs : Bool) : Bl (bt col want w tabs) := by
  unfold bt; split
  · exact (Bl.rep9 _).app (Bl.rep32 _)
  · exact Bl.rep32 _
theorem bt_endc {w : Nat} (hw : 0 < w) (c d : Nat) (h : c ≤ d) (tabs : Bool) : endc w c (bt c d w tabs) = d := by
  unfold bt tabsN
  have hc : ((c : Int) / w) = ((c / w : Nat) : Int) := rfl
  have hd : ((d : Int) / w) = ((d / w : Nat) : Int) := rfl
  have hm : ((d : Int) % w) = ((d % w : Nat) : Int) := rfl
  rw [hc, hd, hm]
  have hle : c / w ≤ d / w := Nat.div_le_div_right h
  have rest : endc w c (List.replicate ((d : Int) - c).toNat 32) = d := by rw [endc_rep32]; lia
  by_cases ht : (tabs && decide ((c : Int) < d)) = true
  · rw [if_pos ht]
    by_cases hp : (0 : Int) < ((d / w : Nat) : Int) - ((c / w : Nat) : Int)
    · rw [if_pos hp, endc_app, endc_rep9 hw _ _ (by lia), endc_rep32]
      have h1 := Nat.div_add_mod d w
      have e : c / w + (((d / w : Nat) : Int) - (c / w : Nat)).toNat = d / w := by lia
      rw [e, Nat.mul_comm]; lia
    · rw [if_neg hp]; exact rest
  · rw [if_neg ht, if_neg (by decide)]; exact rest
theorem bt_tab {col want w : Int} {tabs : Bool} (h : 9 ∈ bt col want w tabs) : tabs = true := by
  unfold bt tabsN at h
  cases tabs
  · simp at h
  · rfl
end Mine

end
section
namespace Mine
open PySem

theorem hdL_succ {l : List Nat} {i : Nat} (h : i < l.length) : hdL l (i + 1) = if l[i] = 10 then [] else hdL l i ++ [l[i]] := by
  have hb := bwd_le notN l i
  unfold hdL
  rw [← List.take_append_getElem h, bwd, cod_get h]
  by_cases h10 : l[i] = 10
  · rw [if_pos h10, if_neg (by rw [h10]; decide), List.drop_of_length_le (by rw [List.length_append, take_len (Nat.le_of_lt h)]; simp)]
  · rw [if_neg h10, if_pos ((notN_iff _).mpr h10), List.drop_append_of_le_length (by rw [take_len (Nat.le_of_lt h)]; exact hb)]
theorem dropWhile_all {p : Nat → Bool} {a : List Nat} (h : ∀ n ∈ a, p n = true) (b : List Nat) : (a ++ b).dropWhile p = b.dropWhile p := by
  induction a with
  | nil => rfl
  | cons n a ih => rw [List.cons_append, List.dropWhile_cons, if_pos (h n (.head _)), ih fun m hm => h m (.tail _ hm)]
theorem takeWhile_all {p : Nat → Bool} {a : List Nat} (h : ∀ n ∈ a, p n = true) (b : List Nat) : (a ++ b).takeWhile p = a ++ b.takeWhile p := by
  induction a with
  | nil => rfl
  | cons n a ih => rw [List.cons_append, List.takeWhile_cons, if_pos (h n (.head _)), ih fun m hm => h m (.tail _ hm)]; rfl
theorem rstr_app {b : List Nat} (h : Bl b) (x : List Nat) : rstr (x ++ b) = rstr x := by
  unfold rstr
  rw [List.reverse_append, dropWhile_all fun n hn => h.all n (List.mem_reverse.mp hn)]
theorem rstr_hdL {t : List Nat} : ∀ {s : Nat}, s ≤ t.length → (s = 0 ∨ isB (cod t (s - 1)) = false) → rstr (hdL t s) = hdL t s
  | 0, _, _ => by unfold hdL; simp [rstr]
  | s + 1, h, hs => by
    rw [hdL_succ h]
    split
    · rfl
    · have h2 := hs.resolve_left (Nat.succ_ne_zero _)
      rw [Nat.add_sub_cancel, cod_get h, isB_bl] at h2
      unfold rstr
      rw [List.reverse_append]
      simp [h2]
/-- what lies between is blank -/
theorem mid_bl {t : List Nat} {i j : Nat} (hj : j ≤ t.length) (h : ∀ k, i ≤ k → k < j → isB (cod t k) = true) : Bl ((t.take j).drop i) := fun n hn => by
  obtain ⟨k, hk, e⟩ := List.getElem_of_mem hn
  rw [List.length_drop, take_len hj] at hk
  rw [List.getElem_drop, List.getElem_take] at e
  have := h (i + k) (by lia) (by lia)
  rw [cod_get (by lia), isB_bl, e] at this
  exact bl_iff.mp this
theorem hdL_app {t : List Nat} {i j : Nat} (hij : i ≤ j) (hj : j ≤ t.length) (h : Bl ((t.take j).drop i)) : hdL t j = hdL t i ++ (t.take j).drop i := by
  have e : t.take j = t.take (bwd notN t i) ++ (hdL t i ++ (t.take j).drop i) := by
    rw [← List.append_assoc, ← hdL_dec (Nat.le_trans hij hj)]
    have := List.take_append_drop i (t.take j)
    rw [List.take_take, Nat.min_eq_left hij] at this
    exact this.symm
  have h1 := last_hdL hj
  rw [e, spl_last (ends_bwd (Nat.le_trans hij hj)) (fun hm => by
    rcases List.mem_append.mp hm with hm | hm
    · exact hdL_free (Nat.le_trans hij hj) hm
    · exact h.free hm)] at h1
  exact (Option.some.inj h1).symm
theorem hdL_ab {t : List Nat} (h : AB t) (i : Nat) : AB (hdL t i) := (h.take i).drop _

/-! to the next stop -/
theorem stop_ok {t : List Nat} (ht : AB t) {w : Nat} (hw : 0 < w) {i : Nat} (hi : i ≤ t.length) (tabs : Bool) :
    ∃ s B, s ≤ i ∧ appE t (stopE w tabs t i) = (t.take s ++ B) ++ t.drop i ∧ (t.take s ++ B).length = s + B.length ∧ Bl B ∧
      (spl (t.take s ++ B)).getLast? = some (hdL t s ++ B) ∧ colOf w (hdL t s ++ B) = (colOf w (hdL t i) / w + 1) * w ∧ rstr (hdL t s ++ B) = rstr (hdL t i) ∧ ((tabs = true) ∨ 9 ∉ (hdL t s ++ B).drop (rstr (hdL t s ++ B)).length) := by
  have hs := bwd_le isB t i
  have hsp := bwd_spec isB t i
  have hst : bwd isB t i ≤ t.length := Nat.le_trans hs hi
  have hmid := mid_bl hi hsp.1
  have hh := hdL_app hs hi hmid
  have ec : endc w 0 (t.take i) = endc w (endc w 0 (t.take (bwd isB t i))) ((t.take i).drop (bwd isB t i)) := by
    rw [← endc_app]
    congr 1
    have := List.take_append_drop (bwd isB t i) (t.take i)
    rw [List.take_take, Nat.min_eq_left hs] at this
    exact this.symm
  have hle : endc w 0 (t.take (bwd isB t i)) ≤ endc w 0 (t.take i) := by rw [ec]; exact (expt_bl w _ _ hmid).2
  have e1 := colAt_endc hw ht hst
  have e2 := colAt_endc hw ht hi
  generalize hc : endc w 0 (t.take (bwd isB t i)) = cs at *
  generalize hd : endc w 0 (t.take i) = ci at *
  have hW : ci ≤ (ci / w + 1) * w := by
    have h1 := Nat.div_add_mod ci w
    have h2 := Nat.mod_lt ci hw
    rw [Nat.add_mul, Nat.one_mul, Nat.mul_comm]; lia
  have hB : stopE w tabs t i = (bwd isB t i, i, bt cs ((ci / w + 1) * w : Nat) w tabs) := by
    unfold stopE; rw [e1, e2]; push_cast; rfl
  have hbe := bt_endc hw cs ((ci / w + 1) * w) (Nat.le_trans hle hW) tabs
  have hbl := bt_bl cs ((ci / w + 1) * w : Nat) w tabs
  have htab : 9 ∈ bt cs ((ci / w + 1) * w : Nat) w tabs → tabs = true := bt_tab
  generalize bt cs ((ci / w + 1) * w : Nat) w tabs = B at *
  have hfree : 10 ∉ hdL t (bwd isB t i) ++ B := fun hm => by
    rcases List.mem_append.mp hm with hm | hm
    · exact hdL_free hst hm
    · exact hbl.free hm
  have hr : rstr (hdL t (bwd isB t i) ++ B) = hdL t (bwd isB t i) := by rw [rstr_app hbl, rstr_hdL hst hsp.2]
  refine ⟨bwd isB t i, B, hs, by rw [hB]; rfl, by rw [List.length_append, take_len hst], hbl, ?_, ?_, ?_, ?_⟩
  · rw [hdL_dec hst, List.append_assoc]; exact spl_last (ends_bwd hst) hfree
  · rw [colOf_endc w ((hdL_ab ht _).app hbl.ab) hfree, endc_app, ← endc_take w hst, hc, hbe, colOf_last ht hi, hd]; push_cast; rfl
  · rw [hr, hh, rstr_app hmid, rstr_hdL hst hsp.2]
  · rw [hr, List.drop_left]
    cases tabs
    · exact .inr fun hm => Bool.noConfusion (htab hm)
    · exact .inl rfl
/-! the line parted -/
theorem lstr_fwd (t : List Nat) (i : Nat) : lstr (t.drop i) = t.drop (fwd isB t i) := by
  unfold lstr fwd
  have e : ((t.drop i).takeWhile fun n : Nat => isB n) = (t.drop i).takeWhile bl := by congr 1; funext n; exact isB_bl n
  rw [e, ← dropWhile_eq_drop, List.drop_drop]
theorem split_ok {t : List Nat} (ht : AB t) {w : Nat} (hw : 0 < w) {i : Nat} (hi : i ≤ t.length) (tabs : Bool) :
    ∃ p B, p ≤ t.length ∧ fwd isB t i = p ∧ splitE w tabs t i = (p, p, 10 :: B) ∧ lstr (t.drop i) = t.drop p ∧ Bl B ∧ colOf w B = colOf w (hdL t p) := by
  have hp := fwd_le isB t hi
  refine ⟨fwd isB t i, bt 0 (colAt w t (fwd isB t i)) w tabs, hp, rfl, rfl, lstr_fwd t i, bt_bl _ _ _ _, ?_⟩
  rw [colAt_endc hw ht hp, colOf_last ht hp]
  have hbl := bt_bl 0 (endc w 0 (t.take (fwd isB t i)) : Nat) w tabs
  rw [colOf_endc w hbl.ab hbl.free]
  have := bt_endc hw 0 (endc w 0 (t.take (fwd isB t i))) (Nat.zero_le _) tabs
  rw [Int.natCast_zero] at this
  rw [this]
theorem strp_bl {B : List Nat} (h : Bl B) : strp B = [] := by
  unfold strp lstr
  have := dropWhile_all (b := []) h.all
  rw [List.append_nil] at this
  rw [this]; rfl

/-! tabs to spaces -/
noncomputable def plU (w : Nat) (t : List Nat) (lo hi : Nat) : Nat → List Nat
  | 0 => []
  | k + 1 => plU w t lo hi k ++ if t.getD k 0 = 9 ∧ lo ≤ k ∧ k < hi then List.replicate ((w : Int) - colOf w (hdL t k) % w).toNat 32 else [t.getD k 0]
theorem plU_out {w : Nat} {t : List Nat} {lo hi : Nat} : ∀ k, k ≤ lo → k ≤ t.length → plU w t lo hi k = t.take k
  | 0, _, _ => rfl
  | k + 1, h, hl => by
    rw [plU, plU_out k (by lia) (by lia), if_neg (by lia), ← List.take_append_getElem (show k < t.length by lia)]
    simp [show k < t.length by lia]
theorem plU_end {w : Nat} {t : List Nat} {lo hi : Nat} : ∀ d, hi + d ≤ t.length → plU w t lo hi (hi + d) = plU w t lo hi hi ++ (t.take (hi + d)).drop hi
  | 0, h => by simp
  | d + 1, h => by
    have hlt : hi + d < t.length := by lia
    rw [← Nat.add_assoc, plU, plU_end d (by lia), if_neg (by lia), List.append_assoc]
    congr 1
    rw [← List.take_append_getElem hlt, List.drop_append_of_le_length (by rw [take_len (Nat.le_of_lt hlt)]; lia)]
    simp [hlt]
theorem done_cons (t : List Nat) (e : Edit) (es : List Edit) : done t (e :: es) = done (appE t e) es := rfl
theorem untab_mid {w : Nat} (hw : 0 < w) {t : List Nat} (ht : AB t) {lo : Nat} {hi : Nat} : ∀ (k : Nat) (y : List Nat), lo + k ≤ hi → hi ≤ t.length → done (t.take (lo + k) ++ y) (untabE w t lo k).reverse = plU w t lo hi (lo + k) ++ y
  | 0, y, h, hh => by rw [Nat.add_zero, plU_out lo (Nat.le_refl _) (by lia)]; rfl
  | k + 1, y, h, hh => by
    have hlt : lo + k < t.length := by lia
    have hcod := cod_get hlt
    have hg : t.getD (lo + k) 0 = t[lo + k] := by simp [hlt]
    rw [← Nat.add_assoc, plU, untabE, hcod, hg, ← List.take_append_getElem hlt, List.append_assoc]
    by_cases h9 : t[lo + k] = 9
    · rw [if_pos (by rw [h9]; rfl), if_pos ⟨h9, by lia, by lia⟩, List.reverse_append]
      show done (t.take (lo + k) ++ ([t[lo + k]] ++ y)) ((lo + k, lo + k + 1, _) :: (untabE w t lo k).reverse) = _
      rw [done_cons]
      have e : appE (t.take (lo + k) ++ ([t[lo + k]] ++ y)) (lo + k, lo + k + 1, List.replicate ((w : Int) - colAt w t (lo + k) % w).toNat 32) = t.take (lo + k) ++ (List.replicate ((w : Int) - colAt w t (lo + k) % w).toNat 32 ++ y) := by
        unfold appE
        simp only
        rw [List.take_left' (take_len (Nat.le_of_lt hlt)), ← List.append_assoc (t.take (lo + k)), List.drop_left' (by rw [List.length_append, take_len (Nat.le_of_lt hlt)]; rfl), List.append_assoc]
      rw [e, untab_mid hw ht k _ (by lia) hh, colAt_endc hw ht (Nat.le_of_lt hlt), colOf_last ht (Nat.le_of_lt hlt), List.append_assoc]
    · rw [if_neg (by lia), if_neg (fun q => h9 q.1), List.append_nil, untab_mid hw ht k _ (by lia) hh, List.append_assoc]
theorem untab_ok {w : Nat} (hw : 0 < w) {t : List Nat} (ht : AB t) {lo hi : Nat} (h : lo ≤ hi) (hh : hi ≤ t.length) : done t (untabE w t lo (hi - lo)).reverse = plU w t lo hi t.length := by
  have h1 := untab_mid hw ht (lo := lo) (hi := hi) (hi - lo) (t.drop hi) (by lia) hh
  rw [show lo + (hi - lo) = hi by lia, List.take_append_drop] at h1
  have h2 := plU_end (w := w) (t := t) (lo := lo) (hi := hi) (t.length - hi) (by lia)
  rw [show hi + (t.length - hi) = t.length by lia, List.take_length] at h2
  rw [h1, h2]
end Mine

end
section
open PySem PySem.W PyProof.Rows
namespace Mine
open PySem PySem.Calls PySem.W PyProof.Rows PySem.Builtin.Str

/-- the bodies of the text's functions -/
noncomputable def fbody (i : Nat) : List Stmt := match PySem.Challenge.pw_np0041_01.main.body[i]? with | some (.FunctionDef _ _ b _ _ _ _ _ _ _) => b | _ => []
noncomputable def mbody (i j : Nat) : List Stmt := match PySem.Challenge.pw_np0041_01.main.body[i]? with
  | some (.ClassDef _ _ _ b _ _ _ _ _ _ _) => (match b[j]? with | some (.FunctionDef _ _ b _ _ _ _ _ _ _) => b | _ => [])
  | _ => []
/-- what is known of the objects that the text's head leaves -/
structure KOk (c : Cx) : Prop where
  row_ok : RowOk c
  lk15 : c.K.lookup 15 = some (tupObj #[.int 32 191, .int 9 193] 0)
  g_NEWLINE : nsIn c.K mainGlobals (ks "NEWLINE") = some (some (.int 10 189))
  g_SPACE : nsIn c.K mainGlobals (ks "SPACE") = some (some (.int 32 191))
  g_TAB : nsIn c.K mainGlobals (ks "TAB") = some (some (.int 9 193))
  g_DELETE : nsIn c.K mainGlobals (ks "DELETE") = some (some (.int 127 275))
  g_BLANKS : nsIn c.K mainGlobals (ks "BLANKS") = some (some (.ref 15))
  g_len : nsIn c.K mainGlobals (ks "len") = some none
  g_max : nsIn c.K mainGlobals (ks "max") = some none
  g_min : nsIn c.K mainGlobals (ks "min") = some none
  g_abs : nsIn c.K mainGlobals (ks "abs") = some none
  g_chr : nsIn c.K mainGlobals (ks "chr") = some none
  g_ord : nsIn c.K mainGlobals (ks "ord") = some none
  g_sorted : nsIn c.K mainGlobals (ks "sorted") = some none
  g_range : nsIn c.K mainGlobals (ks "range") = some none
  g_line_start : nsIn c.K mainGlobals (ks "line_start") = some (some (.ref 22))
  g_line_end : nsIn c.K mainGlobals (ks "line_end") = some (some (.ref 29))
  g_next_start : nsIn c.K mainGlobals (ks "next_start") = some (some (.ref 36))
  g_blanks_end : nsIn c.K mainGlobals (ks "blanks_end") = some (some (.ref 43))
  g_blanks_begin : nsIn c.K mainGlobals (ks "blanks_begin") = some (some (.ref 50))
  g_is_line_begin : nsIn c.K mainGlobals (ks "is_line_begin") = some (some (.ref 57))
  g_is_line_end : nsIn c.K mainGlobals (ks "is_line_end") = some (some (.ref 64))
  g_is_blank_line : nsIn c.K mainGlobals (ks "is_blank_line") = some (some (.ref 71))
  g_indentation_end : nsIn c.K mainGlobals (ks "indentation_end") = some (some (.ref 78))
  g_width_at : nsIn c.K mainGlobals (ks "width_at") = some (some (.ref 85))
  g_column_at : nsIn c.K mainGlobals (ks "column_at") = some (some (.ref 92))
  g_place_at : nsIn c.K mainGlobals (ks "place_at") = some (some (.ref 99))
  g_indentation_at : nsIn c.K mainGlobals (ks "indentation_at") = some (some (.ref 106))
  g_blanks_to : nsIn c.K mainGlobals (ks "blanks_to") = some (some (.ref 113))
  g_starts_in : nsIn c.K mainGlobals (ks "starts_in") = some (some (.ref 120))
  g_line_edit : nsIn c.K mainGlobals (ks "line_edit") = some (some (.ref 127))
  g_rigid_edits : nsIn c.K mainGlobals (ks "rigid_edits") = some (some (.ref 134))
  g_region_edits : nsIn c.K mainGlobals (ks "region_edits") = some (some (.ref 141))
  g_untabify_edits : nsIn c.K mainGlobals (ks "untabify_edits") = some (some (.ref 148))
  g_tabify_edits : nsIn c.K mainGlobals (ks "tabify_edits") = some (some (.ref 155))
  g_line_with_text : nsIn c.K mainGlobals (ks "line_with_text") = some (some (.ref 162))
  g_skip_while : nsIn c.K mainGlobals (ks "skip_while") = some (some (.ref 169))
  g_relative_column : nsIn c.K mainGlobals (ks "relative_column") = some (some (.ref 176))
  g_stop_behind : nsIn c.K mainGlobals (ks "stop_behind") = some (some (.ref 183))
  g_stop_edit : nsIn c.K mainGlobals (ks "stop_edit") = some (some (.ref 190))
  g_split_edit : nsIn c.K mainGlobals (ks "split_edit") = some (some (.ref 197))
  g_law_draw : nsIn c.K mainGlobals (ks "_law_draw") = some (some (.ref 247))
  g_law_deck_of : nsIn c.K mainGlobals (ks "_law_deck_of") = some (some (.ref 252))
  g_law_one : nsIn c.K mainGlobals (ks "_law_one") = some (some (.ref 259))
  g_law_some_codes : nsIn c.K mainGlobals (ks "_law_some_codes") = some (some (.ref 264))
  g_law_done : nsIn c.K mainGlobals (ks "_law_done") = some (some (.ref 269))
  g_law_indented : nsIn c.K mainGlobals (ks "_law_indented") = some (some (.ref 276))
  g_law_column_of : nsIn c.K mainGlobals (ks "_law_column_of") = some (some (.ref 283))
  g_law_blank_columns : nsIn c.K mainGlobals (ks "_law_blank_columns") = some (some (.ref 290))
  g_law_turned : nsIn c.K mainGlobals (ks "_law_turned") = some (some (.ref 297))
  g_law_relative : nsIn c.K mainGlobals (ks "_law_relative") = some (some (.ref 302))
  g_TextRow : nsIn c.K mainGlobals (ks "TextRow") = some (some (.ref 236))
  d_begin : DefOk c 219 [ks "self"] [] [] (mbody 35 1)
  d_end : DefOk c 226 [ks "self"] [] [ks "len"] (mbody 35 2)
  d_code_at : DefOk c 233 [ks "self", ks "place"] [] [ks "len"] (mbody 35 3)
  d_line_start : DefOk c 22 [ks "view", ks "place"] [ks "at"] [ks "NEWLINE"] (fbody 5)
  d_line_end : DefOk c 29 [ks "view", ks "place"] [ks "at"] [ks "NEWLINE"] (fbody 6)
  d_next_start : DefOk c 36 [ks "view", ks "place"] [ks "at"] [ks "line_end"] (fbody 7)
  d_blanks_end : DefOk c 43 [ks "view", ks "place"] [ks "at"] [ks "BLANKS"] (fbody 8)
  d_blanks_begin : DefOk c 50 [ks "view", ks "place"] [ks "at"] [ks "BLANKS"] (fbody 9)
  d_is_line_begin : DefOk c 57 [ks "view", ks "place"] [] [ks "NEWLINE"] (fbody 10)
  d_is_line_end : DefOk c 64 [ks "view", ks "place"] [] [ks "NEWLINE"] (fbody 11)
  d_is_blank_line : DefOk c 71 [ks "view", ks "place"] [] [ks "is_line_end", ks "blanks_end", ks "line_start"] (fbody 12)
  d_indentation_end : DefOk c 78 [ks "view", ks "place"] [] [ks "blanks_end", ks "line_start"] (fbody 13)
  d_width_at : DefOk c 85 [ks "code", ks "column", ks "width"] [] [ks "TAB", ks "SPACE", ks "DELETE"] (fbody 16)
  d_column_at : DefOk c 92 [ks "view", ks "place", ks "width"] [ks "column", ks "at"] [ks "range", ks "line_start", ks "width_at"] (fbody 17)
  d_place_at : DefOk c 99 [ks "view", ks "place", ks "column", ks "width"] [ks "at", ks "last", ks "reached"] [ks "line_start", ks "line_end", ks "width_at"] (fbody 18)
  d_indentation_at : DefOk c 106 [ks "view", ks "place", ks "width"] [ks "at", ks "column"] [ks "line_start", ks "BLANKS", ks "width_at"] (fbody 19)
  d_blanks_to : DefOk c 113 [ks "column", ks "wanted", ks "width", ks "has_tabs"] [ks "tabs"] [ks "TAB", ks "SPACE", ks "max"] (fbody 20)
  d_starts_in : DefOk c 120 [ks "view", ks "start", ks "end"] [ks "at", ks "found"] [ks "is_line_begin", ks "next_start"] (fbody 22)
  d_line_edit : DefOk c 127 [ks "view", ks "at", ks "column", ks "width", ks "has_tabs"] [] [ks "indentation_end", ks "blanks_to", ks "max"] (fbody 23)
  d_rigid_edits : DefOk c 134 [ks "view", ks "start", ks "end", ks "by", ks "width", ks "has_tabs"] [ks "found", ks "at"] [ks "starts_in", ks "is_blank_line", ks "line_end", ks "line_edit", ks "indentation_at"] (fbody 24)
  d_region_edits : DefOk c 141 [ks "view", ks "start", ks "end", ks "column", ks "width", ks "has_tabs"] [ks "found", ks "at"] [ks "starts_in", ks "line_edit", ks "is_blank_line"] (fbody 25)
  d_untabify_edits : DefOk c 148 [ks "view", ks "start", ks "end", ks "width"] [ks "found", ks "at", ks "column"] [ks "range", ks "TAB", ks "column_at", ks "SPACE"] (fbody 26)
  d_tabify_edits : DefOk c 155 [ks "view", ks "start", ks "end", ks "width"] [ks "found", ks "at", ks "behind", ks "first", ks "last"] [ks "SPACE", ks "min", ks "blanks_end", ks "column_at", ks "blanks_to"] (fbody 27)
  d_line_with_text : DefOk c 162 [ks "view", ks "place"] [ks "at", ks "first"] [ks "line_start"] (fbody 28)
  d_skip_while : DefOk c 169 [ks "view", ks "at", ks "end", ks "is_blank"] [] [ks "BLANKS"] (fbody 29)
  d_relative_column : DefOk c 176 [ks "view", ks "place", ks "width", ks "is_first_taken"] [ks "above", ks "column", ks "at", ks "reached", ks "end"] [ks "line_with_text", ks "column_at", ks "place_at", ks "line_end", ks "BLANKS", ks "skip_while"] (fbody 30)
  d_stop_behind : DefOk c 183 [ks "column", ks "width"] [] [] (fbody 31)
  d_stop_edit : DefOk c 190 [ks "view", ks "place", ks "width", ks "has_tabs"] [ks "start", ks "column"] [ks "blanks_begin", ks "column_at", ks "blanks_to", ks "stop_behind"] (fbody 32)
  d_split_edit : DefOk c 197 [ks "view", ks "place", ks "width", ks "has_tabs"] [ks "at", ks "column"] [ks "blanks_end", ks "column_at", ks "blanks_to"] (fbody 33)
  d_law_draw : DefOk c 247 [ks "_law_deck", ks "_law_many"] [ks "_law_found"] [ks "len"] (fbody 37)
  d_law_deck_of : DefOk c 252 [ks "script"] [ks "_law_mixed", ks "_law_cell"] [ks "abs"] (fbody 38)
  d_law_one : DefOk c 259 [ks "_law_deck", ks "_law_items"] [] [ks "_law_draw", ks "len"] (fbody 39)
  d_law_done : DefOk c 269 [ks "_law_text", ks "_law_edits", ks "_law_first"] [ks "_law_start", ks "_law_end", ks "_law_codes"] [] (fbody 41)
  d_law_indented : DefOk c 276 [ks "_law_line", ks "_law_column", ks "_law_width", ks "_law_tabs"] [ks "_law_body", ks "_law_wanted"] [ks "max"] (fbody 42)
  d_law_column_of : DefOk c 283 [ks "_law_line", ks "_law_width"] [] [ks "len"] (fbody 43)
  d_law_blank_columns : DefOk c 290 [ks "_law_line", ks "_law_width"] [] [ks "_law_column_of", ks "len"] (fbody 44)
  d_law_turned : DefOk c 297 [ks "_law_text", ks "_law_low", ks "_law_high", ks "_law_change"] [ks "_law_rows", ks "_law_at", ks "_law_line"] [ks "len"] (fbody 45)
  d_law_relative : DefOk c 302 [ks "_law_lines", ks "_law_at", ks "_law_column", ks "_law_width"] [ks "_law_above", ks "_law_line", ks "_law_step"] [ks "len", ks "_law_column_of"] (fbody 46)
  io : InitOk c (mbody 35 0)
  some_codes : CellDef c 264 (ks "_law_deck") (ks "_law_signs") (ks "_law_most") [ks "range", ks "_law_draw"] (fbody 40)
theorem KOk.is_BLANKS {c : Cx} (K : KOk c) : ∀ F, CF c F → Is F (.tup ([32, 9].map PV.int)) (.ref 15) := fun F cf =>
  .tup (cf.k _ _ K.lk15) (.cons .int (.cons .int .nil))
end Mine

end
section
open PySem PySem.W PyProof.Rows
namespace Mine
open PySem PySem.Calls PySem.W PyProof.Rows PySem.Builtin.Str
variable {c : Cx}
set_option maxRecDepth 100000

theorem KOk.f_begin (K : KOk c) (cc : List Int) (f : Int) : FnP c 1 (.ref 219) [.view cc f] (.int f) :=
  fp_of_body K.d_begin rfl fun X => ex_return (ev_self_place K.row_ok (ev_local (by repeat first | exact GetAt.head | apply GetAt.tail))) ⟨rfl, rfl⟩
theorem KOk.f_end (K : KOk c) (l : List Nat) (f : Int) (h : l.length < 1000000) : FnP c 1 (.ref 226) [vw l f] (.int (f + l.length)) :=
  fp_of_body K.d_end rfl fun X => ex_return (ev_bin (ev_self_place K.row_ok (ev_local (by repeat first | exact GetAt.head | apply GetAt.tail))) (ev_callB (ev_builtin (by repeat first | exact List.Mem.head _ | apply List.Mem.tail) K.g_len rfl (by decide)) (el_cons (ev_self_codes K.row_ok (ev_local (by repeat first | exact GetAt.head | apply GetAt.tail))) el_nil) (by first | exact bi_len_list (by first | assumption | lia | (simp; done) | (simp; lia)) | exact bi_len_str (by first | assumption | lia | (simp; done) | (simp; lia)) | exact bi_abs | exact bi_max | exact bi_min | exact bi_chr (by first | assumption | lia | (simp; done) | (simp; lia)) (by first | assumption | lia | (simp; done) | (simp; lia)) | exact bi_ord | exact bi_lstrip (by first | assumption | lia | (simp; done) | (simp; lia)) | exact bi_rstrip (by first | assumption | lia | (simp; done) | (simp; lia)) | exact bi_strip (by first | assumption | lia | (simp; done) | (simp; lia)) | exact bi_count | exact bi_expandtabs (by first | assumption | lia | (simp; done) | (simp; lia)) (by first | assumption | lia | (simp; done) | (simp; lia)) (by first | assumption | lia | (simp; done) | (simp; lia)) | exact bi_split (by first | assumption | lia | (simp; done) | (simp; lia)) | exact bi_sorted2)) (by first | exact op_add | exact op_sub | exact op_mod (by first | assumption | lia | (simp; done) | (simp; lia)) | exact op_div (by first | assumption | lia | (simp; done) | (simp; lia)) (PyProof.noPylong_small (by lia)) | exact op_mul (mul_okR (by lia)) | exact op_mul (mul_okL (by lia)) | exact op_adds (by first | assumption | lia | (simp; done) | (simp; lia)) | exact op_addl (by first | assumption | lia | (simp; done) | (simp; lia)) | exact op_muls (by first | assumption | lia | (simp; done) | (simp; lia)) (by first | assumption | lia | (simp; done) | (simp; lia)) | exact op_mull (by first | assumption | lia | (simp; done) | (simp; lia)) (by first | assumption | lia | (simp; done) | (simp; lia)) (by first | assumption | lia | (simp; done) | (simp; lia)))) ⟨by simp, rfl⟩
theorem KOk.f_code_at (K : KOk c) (l : List Nat) (f : Int) {p : Int} (i : Nat) (h : l.length < 1000000) (hp : p = f + i) : FnP c 1 (.ref 233) [vw l f, .int p] (.int (cod l i)) :=
  fp_of_body K.d_code_at rfl fun X => by
    subst hp
    have e : (List.map PV.int (List.map (fun n : Nat => (n : Int)) l)).length = l.length := by simp
    refine ex_if (et_cmp2 (ev_self_place K.row_ok (ev_local (by repeat first | exact GetAt.head | apply GetAt.tail))) (ev_local (by repeat first | exact GetAt.head | apply GetAt.tail)) (by first | exact cp_lt | exact cp_le | exact cp_gt | exact cp_ge | exact cp_eq | exact cp_ne | exact cp_eqs | exact cp_nes | exact cp_eqb | exact cp_in_tup | exact cp_notin_tup | exact cp_in_str | exact cp_notin_str) (fun hc => (ev_bin (ev_self_place K.row_ok (ev_local (by repeat first | exact GetAt.head | apply GetAt.tail))) (ev_callB (ev_builtin (by repeat first | exact List.Mem.head _ | apply List.Mem.tail) K.g_len rfl (by decide)) (el_cons (ev_self_codes K.row_ok (ev_local (by repeat first | exact GetAt.head | apply GetAt.tail))) el_nil) (by first | exact bi_len_list (by first | assumption | lia | (simp; done) | (simp; lia)) | exact bi_len_str (by first | assumption | lia | (simp; done) | (simp; lia)) | exact bi_abs | exact bi_max | exact bi_min | exact bi_chr (by first | assumption | lia | (simp; done) | (simp; lia)) (by first | assumption | lia | (simp; done) | (simp; lia)) | exact bi_ord | exact bi_lstrip (by first | assumption | lia | (simp; done) | (simp; lia)) | exact bi_rstrip (by first | assumption | lia | (simp; done) | (simp; lia)) | exact bi_strip (by first | assumption | lia | (simp; done) | (simp; lia)) | exact bi_count | exact bi_expandtabs (by first | assumption | lia | (simp; done) | (simp; lia)) (by first | assumption | lia | (simp; done) | (simp; lia)) (by first | assumption | lia | (simp; done) | (simp; lia)) | exact bi_split (by first | assumption | lia | (simp; done) | (simp; lia)) | exact bi_sorted2)) (by first | exact op_add | exact op_sub | exact op_mod (by first | assumption | lia | (simp; done) | (simp; lia)) | exact op_div (by first | assumption | lia | (simp; done) | (simp; lia)) (PyProof.noPylong_small (by lia)) | exact op_mul (mul_okR (by lia)) | exact op_mul (mul_okL (by lia)) | exact op_adds (by first | assumption | lia | (simp; done) | (simp; lia)) | exact op_addl (by first | assumption | lia | (simp; done) | (simp; lia)) | exact op_muls (by first | assumption | lia | (simp; done) | (simp; lia)) (by first | assumption | lia | (simp; done) | (simp; lia)) | exact op_mull (by first | assumption | lia | (simp; done) | (simp; lia)) (by first | assumption | lia | (simp; done) | (simp; lia)) (by first | assumption | lia | (simp; done) | (simp; lia))))) (by first | exact cp_lt | exact cp_le | exact cp_gt | exact cp_ge | exact cp_eq | exact cp_ne | exact cp_eqs | exact cp_nes | exact cp_eqb | exact cp_in_tup | exact cp_notin_tup | exact cp_in_str | exact cp_notin_str)) (fun hb => ?_) (fun hb => ?_)
    · rw [e] at hb
      have hi : i < l.length := by simp at hb; lia
      exact ex_return (ev_item (ev_self_codes K.row_ok (ev_local (by repeat first | exact GetAt.head | apply GetAt.tail))) (ev_bin (ev_local (by repeat first | exact GetAt.head | apply GetAt.tail)) (ev_self_place K.row_ok (ev_local (by repeat first | exact GetAt.head | apply GetAt.tail))) (by first | exact op_add | exact op_sub | exact op_mod (by first | assumption | lia | (simp; done) | (simp; lia)) | exact op_div (by first | assumption | lia | (simp; done) | (simp; lia)) (PyProof.noPylong_small (by lia)) | exact op_mul (mul_okR (by lia)) | exact op_mul (mul_okL (by lia)) | exact op_adds (by first | assumption | lia | (simp; done) | (simp; lia)) | exact op_addl (by first | assumption | lia | (simp; done) | (simp; lia)) | exact op_muls (by first | assumption | lia | (simp; done) | (simp; lia)) (by first | assumption | lia | (simp; done) | (simp; lia)) | exact op_mull (by first | assumption | lia | (simp; done) | (simp; lia)) (by first | assumption | lia | (simp; done) | (simp; lia)) (by first | assumption | lia | (simp; done) | (simp; lia)))) (by lia) (by lia) (p := .int (cod l i)) (by rw [show (f + (i : Int) - f).toNat = i by lia]; simp [cod_lt, hi])) ⟨rfl, rfl⟩
    · rw [e] at hb
      have hi : l.length ≤ i := by simp at hb; lia
      exact ex_return (ev_neg ev_int) ⟨by rw [cod_ge hi], rfl⟩

theorem KOk.f_line_start (K : KOk c) (l : List Nat) (f : Int) {p : Int} (i : Nat) (h : l.length < 1000000) (hi : i ≤ l.length) (hp : p = f + i) : FnP c 2 (.ref 22) [vw l f, .int p] (.int (f + (bwd notN l i : Nat))) :=
  fp_of_body K.d_line_start rfl fun X => by
    subst hp
    refine ex_assign (ev_local (by repeat first | exact GetAt.head | apply GetAt.tail)) (by repeat first | exact SetAt.head | apply SetAt.tail) ?_
    refine ex_while (fun j : Nat => [some (vw l f), some (.int (f + i)), some (.int (f + j))]) (fun _ => []) (fun j => j ≤ i ∧ bwd notN l j = bwd notN l i) id i (fun j => decide (0 < j) && notN (cod l (j - 1))) (Fsub.refl _) rfl ⟨Nat.le_refl _, rfl⟩ (fun j hj => ?_) (fun j hj hb => ?_) (fun j hj hb => ?_)
    · exact et_conv (et_and (et_cmp (ev_local (by repeat first | exact GetAt.head | apply GetAt.tail)) (ev_meth K.row_ok K.row_ok.begin K.d_begin.isFn (by decide) (ev_local (by repeat first | exact GetAt.head | apply GetAt.tail)) el_nil (K.f_begin _ _) (by decide)) (by first | exact cp_lt | exact cp_le | exact cp_gt | exact cp_ge | exact cp_eq | exact cp_ne | exact cp_eqs | exact cp_nes | exact cp_eqb | exact cp_in_tup | exact cp_notin_tup | exact cp_in_str | exact cp_notin_str)) (fun hb => (et_cmp (ev_meth K.row_ok K.row_ok.code K.d_code_at.isFn (by decide) (ev_local (by repeat first | exact GetAt.head | apply GetAt.tail)) (el_cons (ev_bin (ev_local (by repeat first | exact GetAt.head | apply GetAt.tail)) ev_int (by first | exact op_add | exact op_sub | exact op_mod (by first | assumption | lia | (simp; done) | (simp; lia)) | exact op_div (by first | assumption | lia | (simp; done) | (simp; lia)) (PyProof.noPylong_small (by lia)) | exact op_mul (mul_okR (by lia)) | exact op_mul (mul_okL (by lia)) | exact op_adds (by first | assumption | lia | (simp; done) | (simp; lia)) | exact op_addl (by first | assumption | lia | (simp; done) | (simp; lia)) | exact op_muls (by first | assumption | lia | (simp; done) | (simp; lia)) (by first | assumption | lia | (simp; done) | (simp; lia)) | exact op_mull (by first | assumption | lia | (simp; done) | (simp; lia)) (by first | assumption | lia | (simp; done) | (simp; lia)) (by first | assumption | lia | (simp; done) | (simp; lia)))) el_nil) (K.f_code_at _ _ (j - 1) (by first | assumption | lia | (simp; done) | (simp; lia)) (by first | rfl | lia | (push_cast; lia) | (simp only [decide_eq_true_eq, decide_eq_false_iff_not, Bool.and_eq_true] at *; lia))) (by decide)) (ev_global (by repeat first | exact List.Mem.head _ | apply List.Mem.tail) K.g_NEWLINE fun _ _ => .int) (by first | exact cp_lt | exact cp_le | exact cp_gt | exact cp_ge | exact cp_eq | exact cp_ne | exact cp_eqs | exact cp_nes | exact cp_eqb | exact cp_in_tup | exact cp_notin_tup | exact cp_in_str | exact cp_notin_str)))) (by congr 1; simp; lia)
    · refine ex_assign (ev_bin (ev_local (by repeat first | exact GetAt.head | apply GetAt.tail)) ev_int (by first | exact op_add | exact op_sub | exact op_mod (by first | assumption | lia | (simp; done) | (simp; lia)) | exact op_div (by first | assumption | lia | (simp; done) | (simp; lia)) (PyProof.noPylong_small (by lia)) | exact op_mul (mul_okR (by lia)) | exact op_mul (mul_okL (by lia)) | exact op_adds (by first | assumption | lia | (simp; done) | (simp; lia)) | exact op_addl (by first | assumption | lia | (simp; done) | (simp; lia)) | exact op_muls (by first | assumption | lia | (simp; done) | (simp; lia)) (by first | assumption | lia | (simp; done) | (simp; lia)) | exact op_mull (by first | assumption | lia | (simp; done) | (simp; lia)) (by first | assumption | lia | (simp; done) | (simp; lia)) (by first | assumption | lia | (simp; done) | (simp; lia)))) (by repeat first | exact SetAt.head | apply SetAt.tail) (ex_nil ⟨j - 1, ?_, ?_, .keep (.keep (.eq ?_ .nil)), rfl⟩)
      all_goals (cases j with | zero => simp at hb | succ j => ?_)
      · simp only [Nat.add_sub_cancel] at hb ⊢
        refine ⟨by lia, ?_⟩
        rw [← hj.2, bwd, if_pos (by simpa using hb)]
      · simp
      · simp; lia
    · refine ex_return (ev_local (by repeat first | exact GetAt.head | apply GetAt.tail)) ⟨?_, rfl⟩
      rw [← hj.2]
      cases j with
      | zero => rfl
      | succ j =>
        rw [bwd, if_neg (by simpa using hb)]
theorem KOk.f_line_end (K : KOk c) (l : List Nat) (f : Int) {p : Int} (i : Nat) (h : l.length < 1000000) (hi : i ≤ l.length) (hp : p = f + i) : FnP c 2 (.ref 29) [vw l f, .int p] (.int (f + (fwd notN l i : Nat))) :=
  fp_of_body K.d_line_end rfl fun X => by
    subst hp
    refine ex_assign (ev_local (by repeat first | exact GetAt.head | apply GetAt.tail)) (by repeat first | exact SetAt.head | apply SetAt.tail) ?_
    refine ex_while (fun j : Nat => [some (vw l f), some (.int (f + i)), some (.int (f + j))]) (fun _ => []) (fun j => j ≤ l.length ∧ fwd notN l j = fwd notN l i) (fun j => l.length - j) i (fun j => decide (j < l.length) && notN (cod l j)) (Fsub.refl _) rfl ⟨hi, rfl⟩ (fun j hj => ?_) (fun j hj hb => ?_) (fun j hj hb => ?_)
    · exact et_conv (et_and (et_cmp (ev_local (by repeat first | exact GetAt.head | apply GetAt.tail)) (ev_meth K.row_ok K.row_ok.endd K.d_end.isFn (by decide) (ev_local (by repeat first | exact GetAt.head | apply GetAt.tail)) el_nil (K.f_end _ _ (by first | assumption | lia | (simp; done) | (simp; lia))) (by decide)) (by first | exact cp_lt | exact cp_le | exact cp_gt | exact cp_ge | exact cp_eq | exact cp_ne | exact cp_eqs | exact cp_nes | exact cp_eqb | exact cp_in_tup | exact cp_notin_tup | exact cp_in_str | exact cp_notin_str)) (fun hb => (et_cmp (ev_meth K.row_ok K.row_ok.code K.d_code_at.isFn (by decide) (ev_local (by repeat first | exact GetAt.head | apply GetAt.tail)) (el_cons (ev_local (by repeat first | exact GetAt.head | apply GetAt.tail)) el_nil) (K.f_code_at _ _ j (by first | assumption | lia | (simp; done) | (simp; lia)) (by first | rfl | lia | (push_cast; lia) | (simp only [decide_eq_true_eq, decide_eq_false_iff_not, Bool.and_eq_true] at *; lia))) (by decide)) (ev_global (by repeat first | exact List.Mem.head _ | apply List.Mem.tail) K.g_NEWLINE fun _ _ => .int) (by first | exact cp_lt | exact cp_le | exact cp_gt | exact cp_ge | exact cp_eq | exact cp_ne | exact cp_eqs | exact cp_nes | exact cp_eqb | exact cp_in_tup | exact cp_notin_tup | exact cp_in_str | exact cp_notin_str)))) (by congr 1; simp)
    · simp only [Bool.and_eq_true, decide_eq_true_eq] at hb
      exact ex_assign (ev_bin (ev_local (by repeat first | exact GetAt.head | apply GetAt.tail)) ev_int (by first | exact op_add | exact op_sub | exact op_mod (by first | assumption | lia | (simp; done) | (simp; lia)) | exact op_div (by first | assumption | lia | (simp; done) | (simp; lia)) (PyProof.noPylong_small (by lia)) | exact op_mul (mul_okR (by lia)) | exact op_mul (mul_okL (by lia)) | exact op_adds (by first | assumption | lia | (simp; done) | (simp; lia)) | exact op_addl (by first | assumption | lia | (simp; done) | (simp; lia)) | exact op_muls (by first | assumption | lia | (simp; done) | (simp; lia)) (by first | assumption | lia | (simp; done) | (simp; lia)) | exact op_mull (by first | assumption | lia | (simp; done) | (simp; lia)) (by first | assumption | lia | (simp; done) | (simp; lia)) (by first | assumption | lia | (simp; done) | (simp; lia)))) (by repeat first | exact SetAt.head | apply SetAt.tail) (ex_nil ⟨j + 1, ⟨by lia, by rw [← hj.2, fwd_step _ hb.1 hb.2]⟩, by lia, .keep (.keep (.eq (by push_cast; rw [Int.add_assoc]) .nil)), rfl⟩)
    · refine ex_return (ev_local (by repeat first | exact GetAt.head | apply GetAt.tail)) ⟨?_, rfl⟩
      rw [← hj.2, fwd_stop]
      intro hl
      simpa [hl] using hb
theorem KOk.f_blanks_end (K : KOk c) (l : List Nat) (f : Int) {p : Int} (i : Nat) (h : l.length < 1000000) (hi : i ≤ l.length) (hp : p = f + i) : FnP c 2 (.ref 43) [vw l f, .int p] (.int (f + (fwd isB l i : Nat))) :=
  fp_of_body K.d_blanks_end rfl fun X => by
    subst hp
    refine ex_assign (ev_local (by repeat first | exact GetAt.head | apply GetAt.tail)) (by repeat first | exact SetAt.head | apply SetAt.tail) ?_
    refine ex_while (fun j : Nat => [some (vw l f), some (.int (f + i)), some (.int (f + j))]) (fun _ => []) (fun j => j ≤ l.length ∧ fwd isB l j = fwd isB l i) (fun j => l.length - j) i (fun j => decide (j < l.length) && isB (cod l j)) (Fsub.refl _) rfl ⟨hi, rfl⟩ (fun j hj => ?_) (fun j hj hb => ?_) (fun j hj hb => ?_)
    · exact et_conv (et_and (et_cmp (ev_local (by repeat first | exact GetAt.head | apply GetAt.tail)) (ev_meth K.row_ok K.row_ok.endd K.d_end.isFn (by decide) (ev_local (by repeat first | exact GetAt.head | apply GetAt.tail)) el_nil (K.f_end _ _ (by first | assumption | lia | (simp; done) | (simp; lia))) (by decide)) (by first | exact cp_lt | exact cp_le | exact cp_gt | exact cp_ge | exact cp_eq | exact cp_ne | exact cp_eqs | exact cp_nes | exact cp_eqb | exact cp_in_tup | exact cp_notin_tup | exact cp_in_str | exact cp_notin_str)) (fun hb => (et_cmp (ev_meth K.row_ok K.row_ok.code K.d_code_at.isFn (by decide) (ev_local (by repeat first | exact GetAt.head | apply GetAt.tail)) (el_cons (ev_local (by repeat first | exact GetAt.head | apply GetAt.tail)) el_nil) (K.f_code_at _ _ j (by first | assumption | lia | (simp; done) | (simp; lia)) (by first | rfl | lia | (push_cast; lia) | (simp only [decide_eq_true_eq, decide_eq_false_iff_not, Bool.and_eq_true] at *; lia))) (by decide)) (ev_global (by repeat first | exact List.Mem.head _ | apply List.Mem.tail) K.g_BLANKS K.is_BLANKS) (by first | exact cp_lt | exact cp_le | exact cp_gt | exact cp_ge | exact cp_eq | exact cp_ne | exact cp_eqs | exact cp_nes | exact cp_eqb | exact cp_in_tup | exact cp_notin_tup | exact cp_in_str | exact cp_notin_str)))) (by congr 1; simp)
    · simp only [Bool.and_eq_true, decide_eq_true_eq] at hb
      exact ex_assign (ev_bin (ev_local (by repeat first | exact GetAt.head | apply GetAt.tail)) ev_int (by first | exact op_add | exact op_sub | exact op_mod (by first | assumption | lia | (simp; done) | (simp; lia)) | exact op_div (by first | assumption | lia | (simp; done) | (simp; lia)) (PyProof.noPylong_small (by lia)) | exact op_mul (mul_okR (by lia)) | exact op_mul (mul_okL (by lia)) | exact op_adds (by first | assumption | lia | (simp; done) | (simp; lia)) | exact op_addl (by first | assumption | lia | (simp; done) | (simp; lia)) | exact op_muls (by first | assumption | lia | (simp; done) | (simp; lia)) (by first | assumption | lia | (simp; done) | (simp; lia)) | exact op_mull (by first | assumption | lia | (simp; done) | (simp; lia)) (by first | assumption | lia | (simp; done) | (simp; lia)) (by first | assumption | lia | (simp; done) | (simp; lia)))) (by repeat first | exact SetAt.head | apply SetAt.tail) (ex_nil ⟨j + 1, ⟨by lia, by rw [← hj.2, fwd_step _ hb.1 hb.2]⟩, by lia, .keep (.keep (.eq (by push_cast; rw [Int.add_assoc]) .nil)), rfl⟩)
    · refine ex_return (ev_local (by repeat first | exact GetAt.head | apply GetAt.tail)) ⟨?_, rfl⟩
      rw [← hj.2, fwd_stop]
      intro hl
      simpa [hl] using hb
theorem KOk.f_blanks_begin (K : KOk c) (l : List Nat) (f : Int) {p : Int} (i : Nat) (h : l.length < 1000000) (hi : i ≤ l.length) (hp : p = f + i) : FnP c 2 (.ref 50) [vw l f, .int p] (.int (f + (bwd isB l i : Nat))) :=
  fp_of_body K.d_blanks_begin rfl fun X => by
    subst hp
    refine ex_assign (ev_local (by repeat first | exact GetAt.head | apply GetAt.tail)) (by repeat first | exact SetAt.head | apply SetAt.tail) ?_
    refine ex_while (fun j : Nat => [some (vw l f), some (.int (f + i)), some (.int (f + j))]) (fun _ => []) (fun j => j ≤ i ∧ bwd isB l j = bwd isB l i) id i (fun j => decide (0 < j) && isB (cod l (j - 1))) (Fsub.refl _) rfl ⟨Nat.le_refl _, rfl⟩ (fun j hj => ?_) (fun j hj hb => ?_) (fun j hj hb => ?_)
    · exact et_conv (et_and (et_cmp (ev_local (by repeat first | exact GetAt.head | apply GetAt.tail)) (ev_meth K.row_ok K.row_ok.begin K.d_begin.isFn (by decide) (ev_local (by repeat first | exact GetAt.head | apply GetAt.tail)) el_nil (K.f_begin _ _) (by decide)) (by first | exact cp_lt | exact cp_le | exact cp_gt | exact cp_ge | exact cp_eq | exact cp_ne | exact cp_eqs | exact cp_nes | exact cp_eqb | exact cp_in_tup | exact cp_notin_tup | exact cp_in_str | exact cp_notin_str)) (fun hb => (et_cmp (ev_meth K.row_ok K.row_ok.code K.d_code_at.isFn (by decide) (ev_local (by repeat first | exact GetAt.head | apply GetAt.tail)) (el_cons (ev_bin (ev_local (by repeat first | exact GetAt.head | apply GetAt.tail)) ev_int (by first | exact op_add | exact op_sub | exact op_mod (by first | assumption | lia | (simp; done) | (simp; lia)) | exact op_div (by first | assumption | lia | (simp; done) | (simp; lia)) (PyProof.noPylong_small (by lia)) | exact op_mul (mul_okR (by lia)) | exact op_mul (mul_okL (by lia)) | exact op_adds (by first | assumption | lia | (simp; done) | (simp; lia)) | exact op_addl (by first | assumption | lia | (simp; done) | (simp; lia)) | exact op_muls (by first | assumption | lia | (simp; done) | (simp; lia)) (by first | assumption | lia | (simp; done) | (simp; lia)) | exact op_mull (by first | assumption | lia | (simp; done) | (simp; lia)) (by first | assumption | lia | (simp; done) | (simp; lia)) (by first | assumption | lia | (simp; done) | (simp; lia)))) el_nil) (K.f_code_at _ _ (j - 1) (by first | assumption | lia | (simp; done) | (simp; lia)) (by first | rfl | lia | (push_cast; lia) | (simp only [decide_eq_true_eq, decide_eq_false_iff_not, Bool.and_eq_true] at *; lia))) (by decide)) (ev_global (by repeat first | exact List.Mem.head _ | apply List.Mem.tail) K.g_BLANKS K.is_BLANKS) (by first | exact cp_lt | exact cp_le | exact cp_gt | exact cp_ge | exact cp_eq | exact cp_ne | exact cp_eqs | exact cp_nes | exact cp_eqb | exact cp_in_tup | exact cp_notin_tup | exact cp_in_str | exact cp_notin_str)))) (by congr 1; simp; lia)
    · refine ex_assign (ev_bin (ev_local (by repeat first | exact GetAt.head | apply GetAt.tail)) ev_int (by first | exact op_add | exact op_sub | exact op_mod (by first | assumption | lia | (simp; done) | (simp; lia)) | exact op_div (by first | assumption | lia | (simp; done) | (simp; lia)) (PyProof.noPylong_small (by lia)) | exact op_mul (mul_okR (by lia)) | exact op_mul (mul_okL (by lia)) | exact op_adds (by first | assumption | lia | (simp; done) | (simp; lia)) | exact op_addl (by first | assumption | lia | (simp; done) | (simp; lia)) | exact op_muls (by first | assumption | lia | (simp; done) | (simp; lia)) (by first | assumption | lia | (simp; done) | (simp; lia)) | exact op_mull (by first | assumption | lia | (simp; done) | (simp; lia)) (by first | assumption | lia | (simp; done) | (simp; lia)) (by first | assumption | lia | (simp; done) | (simp; lia)))) (by repeat first | exact SetAt.head | apply SetAt.tail) (ex_nil ⟨j - 1, ?_, ?_, .keep (.keep (.eq ?_ .nil)), rfl⟩)
      all_goals (cases j with | zero => simp at hb | succ j => ?_)
      · simp only [Nat.add_sub_cancel] at hb ⊢
        refine ⟨by lia, ?_⟩
        rw [← hj.2, bwd, if_pos (by simpa using hb)]
      · simp
      · simp; lia
    · refine ex_return (ev_local (by repeat first | exact GetAt.head | apply GetAt.tail)) ⟨?_, rfl⟩
      rw [← hj.2]
      cases j with
      | zero => rfl
      | succ j =>
        rw [bwd, if_neg (by simpa using hb)]
theorem KOk.f_is_line_begin (K : KOk c) (l : List Nat) (f : Int) {p : Int} (i : Nat) (h : l.length < 1000000) (hp : p = f + i) : FnP c 2 (.ref 57) [vw l f, .int p] (.bool (isLB l i)) :=
  fp_of_body K.d_is_line_begin rfl fun X => by
    subst hp
    exact ex_return (ev_boolop (evb_or (ev_cmp (ev_local (by repeat first | exact GetAt.head | apply GetAt.tail)) (ev_meth K.row_ok K.row_ok.begin K.d_begin.isFn (by decide) (ev_local (by repeat first | exact GetAt.head | apply GetAt.tail)) el_nil (K.f_begin _ _) (by decide)) (by first | exact cp_lt | exact cp_le | exact cp_gt | exact cp_ge | exact cp_eq | exact cp_ne | exact cp_eqs | exact cp_nes | exact cp_eqb | exact cp_in_tup | exact cp_notin_tup | exact cp_in_str | exact cp_notin_str)) (fun hb => (evb_one (ev_cmp (ev_meth K.row_ok K.row_ok.code K.d_code_at.isFn (by decide) (ev_local (by repeat first | exact GetAt.head | apply GetAt.tail)) (el_cons (ev_bin (ev_local (by repeat first | exact GetAt.head | apply GetAt.tail)) ev_int (by first | exact op_add | exact op_sub | exact op_mod (by first | assumption | lia | (simp; done) | (simp; lia)) | exact op_div (by first | assumption | lia | (simp; done) | (simp; lia)) (PyProof.noPylong_small (by lia)) | exact op_mul (mul_okR (by lia)) | exact op_mul (mul_okL (by lia)) | exact op_adds (by first | assumption | lia | (simp; done) | (simp; lia)) | exact op_addl (by first | assumption | lia | (simp; done) | (simp; lia)) | exact op_muls (by first | assumption | lia | (simp; done) | (simp; lia)) (by first | assumption | lia | (simp; done) | (simp; lia)) | exact op_mull (by first | assumption | lia | (simp; done) | (simp; lia)) (by first | assumption | lia | (simp; done) | (simp; lia)) (by first | assumption | lia | (simp; done) | (simp; lia)))) el_nil) (K.f_code_at _ _ (i - 1) (by first | assumption | lia | (simp; done) | (simp; lia)) (by first | rfl | lia | (push_cast; lia) | (simp only [decide_eq_true_eq, decide_eq_false_iff_not, Bool.and_eq_true] at *; lia))) (by decide)) (ev_global (by repeat first | exact List.Mem.head _ | apply List.Mem.tail) K.g_NEWLINE fun _ _ => .int) (by first | exact cp_lt | exact cp_le | exact cp_gt | exact cp_ge | exact cp_eq | exact cp_ne | exact cp_eqs | exact cp_nes | exact cp_eqb | exact cp_in_tup | exact cp_notin_tup | exact cp_in_str | exact cp_notin_str)))))) ⟨by congr 1; unfold isLB; congr 1; exact decide_eq_decide.mpr (by lia), rfl⟩
theorem KOk.f_is_line_end (K : KOk c) (l : List Nat) (f : Int) {p : Int} (i : Nat) (h : l.length < 1000000) (hp : p = f + i) : FnP c 2 (.ref 64) [vw l f, .int p] (.bool (isLE l i)) :=
  fp_of_body K.d_is_line_end rfl fun X => by
    subst hp
    exact ex_return (ev_boolop (evb_or (ev_cmp (ev_local (by repeat first | exact GetAt.head | apply GetAt.tail)) (ev_meth K.row_ok K.row_ok.endd K.d_end.isFn (by decide) (ev_local (by repeat first | exact GetAt.head | apply GetAt.tail)) el_nil (K.f_end _ _ (by first | assumption | lia | (simp; done) | (simp; lia))) (by decide)) (by first | exact cp_lt | exact cp_le | exact cp_gt | exact cp_ge | exact cp_eq | exact cp_ne | exact cp_eqs | exact cp_nes | exact cp_eqb | exact cp_in_tup | exact cp_notin_tup | exact cp_in_str | exact cp_notin_str)) (fun hb => (evb_one (ev_cmp (ev_meth K.row_ok K.row_ok.code K.d_code_at.isFn (by decide) (ev_local (by repeat first | exact GetAt.head | apply GetAt.tail)) (el_cons (ev_local (by repeat first | exact GetAt.head | apply GetAt.tail)) el_nil) (K.f_code_at _ _ i (by first | assumption | lia | (simp; done) | (simp; lia)) (by first | rfl | lia | (push_cast; lia) | (simp only [decide_eq_true_eq, decide_eq_false_iff_not, Bool.and_eq_true] at *; lia))) (by decide)) (ev_global (by repeat first | exact List.Mem.head _ | apply List.Mem.tail) K.g_NEWLINE fun _ _ => .int) (by first | exact cp_lt | exact cp_le | exact cp_gt | exact cp_ge | exact cp_eq | exact cp_ne | exact cp_eqs | exact cp_nes | exact cp_eqb | exact cp_in_tup | exact cp_notin_tup | exact cp_in_str | exact cp_notin_str)))))) ⟨by congr 1; unfold isLE; congr 1; exact decide_eq_decide.mpr (by lia), rfl⟩
theorem KOk.f_is_blank_line (K : KOk c) (l : List Nat) (f : Int) {p : Int} (i : Nat) (h : l.length < 1000000) (hi : i ≤ l.length) (hp : p = f + i) : FnP c 3 (.ref 71) [vw l f, .int p] (.bool (isLE l (inE l i))) :=
  fp_of_body K.d_is_blank_line rfl fun X => by
    have hb := bwd_le notN l i
    exact ex_return (ev_call0 (ev_globalR (by repeat first | exact List.Mem.head _ | apply List.Mem.tail) K.g_is_line_end) K.d_is_line_end.isFn (el_cons (ev_local (by repeat first | exact GetAt.head | apply GetAt.tail)) (el_cons (ev_call0 (ev_globalR (by repeat first | exact List.Mem.head _ | apply List.Mem.tail) K.g_blanks_end) K.d_blanks_end.isFn (el_cons (ev_local (by repeat first | exact GetAt.head | apply GetAt.tail)) (el_cons (ev_call0 (ev_globalR (by repeat first | exact List.Mem.head _ | apply List.Mem.tail) K.g_line_start) K.d_line_start.isFn (el_cons (ev_local (by repeat first | exact GetAt.head | apply GetAt.tail)) (el_cons (ev_local (by repeat first | exact GetAt.head | apply GetAt.tail)) el_nil)) (K.f_line_start l f i h hi hp) (by decide)) el_nil)) (K.f_blanks_end l f _ h (Nat.le_trans hb hi) rfl) (by decide)) el_nil)) (K.f_is_line_end l f _ h rfl) (by decide)) ⟨rfl, rfl⟩
theorem KOk.f_indentation_end (K : KOk c) (l : List Nat) (f : Int) {p : Int} (i : Nat) (h : l.length < 1000000) (hi : i ≤ l.length) (hp : p = f + i) : FnP c 3 (.ref 78) [vw l f, .int p] (.int (f + (inE l i : Nat))) :=
  fp_of_body K.d_indentation_end rfl fun X => by
    have hb := bwd_le notN l i
    exact ex_return (ev_call0 (ev_globalR (by repeat first | exact List.Mem.head _ | apply List.Mem.tail) K.g_blanks_end) K.d_blanks_end.isFn (el_cons (ev_local (by repeat first | exact GetAt.head | apply GetAt.tail)) (el_cons (ev_call0 (ev_globalR (by repeat first | exact List.Mem.head _ | apply List.Mem.tail) K.g_line_start) K.d_line_start.isFn (el_cons (ev_local (by repeat first | exact GetAt.head | apply GetAt.tail)) (el_cons (ev_local (by repeat first | exact GetAt.head | apply GetAt.tail)) el_nil)) (K.f_line_start l f i h hi hp) (by decide)) el_nil)) (K.f_blanks_end l f _ h (Nat.le_trans hb hi) rfl) (by decide)) ⟨rfl, rfl⟩
theorem KOk.f_next_start (K : KOk c) (l : List Nat) (f : Int) {p : Int} (i : Nat) (h : l.length < 1000000) (hi : i ≤ l.length) (hp : p = f + i) : FnP c 3 (.ref 36) [vw l f, .int p] (.int (plc f (nx l i))) :=
  fp_of_body K.d_next_start rfl fun X => by
    refine ex_assign (ev_call0 (ev_globalR (by repeat first | exact List.Mem.head _ | apply List.Mem.tail) K.g_line_end) K.d_line_end.isFn (el_cons (ev_local (by repeat first | exact GetAt.head | apply GetAt.tail)) (el_cons (ev_local (by repeat first | exact GetAt.head | apply GetAt.tail)) el_nil)) (K.f_line_end l f i h hi hp) (by decide)) (by repeat first | exact SetAt.head | apply SetAt.tail) ?_
    exact ex_return (ev_if (p := .int (plc f (nx l i))) (et_cmp (ev_local (by repeat first | exact GetAt.head | apply GetAt.tail)) (ev_meth K.row_ok K.row_ok.endd K.d_end.isFn (by decide) (ev_local (by repeat first | exact GetAt.head | apply GetAt.tail)) el_nil (K.f_end _ _ (by first | assumption | lia | (simp; done) | (simp; lia))) (by decide)) (by first | exact cp_lt | exact cp_le | exact cp_gt | exact cp_ge | exact cp_eq | exact cp_ne | exact cp_eqs | exact cp_nes | exact cp_eqb | exact cp_in_tup | exact cp_notin_tup | exact cp_in_str | exact cp_notin_str)) (fun hT => ev_conv (ev_bin (ev_local (by repeat first | exact GetAt.head | apply GetAt.tail)) ev_int (by first | exact op_add | exact op_sub | exact op_mod (by first | assumption | lia | (simp; done) | (simp; lia)) | exact op_div (by first | assumption | lia | (simp; done) | (simp; lia)) (PyProof.noPylong_small (by lia)) | exact op_mul (mul_okR (by lia)) | exact op_mul (mul_okL (by lia)) | exact op_adds (by first | assumption | lia | (simp; done) | (simp; lia)) | exact op_addl (by first | assumption | lia | (simp; done) | (simp; lia)) | exact op_muls (by first | assumption | lia | (simp; done) | (simp; lia)) (by first | assumption | lia | (simp; done) | (simp; lia)) | exact op_mull (by first | assumption | lia | (simp; done) | (simp; lia)) (by first | assumption | lia | (simp; done) | (simp; lia)) (by first | assumption | lia | (simp; done) | (simp; lia)))) (by simp at hT; rw [nx, if_pos (by lia)]; simp [plc]; lia)) (fun hF => ev_conv (ev_neg ev_int) (by simp at hF; rw [nx, if_neg (by lia)]; simp [plc]))) ⟨rfl, rfl⟩
theorem KOk.f_width_at (K : KOk c) (cd n w' : Int) (hw : 0 < w') : FnP c 1 (.ref 85) [.int cd, .int n, .int w'] (.int (wat cd n w')) :=
  fp_of_body K.d_width_at rfl fun X => by
    refine ex_if (et_cmp (ev_local (by repeat first | exact GetAt.head | apply GetAt.tail)) (ev_global (by repeat first | exact List.Mem.head _ | apply List.Mem.tail) K.g_TAB fun _ _ => .int) (by first | exact cp_lt | exact cp_le | exact cp_gt | exact cp_ge | exact cp_eq | exact cp_ne | exact cp_eqs | exact cp_nes | exact cp_eqb | exact cp_in_tup | exact cp_notin_tup | exact cp_in_str | exact cp_notin_str)) (fun hb => ?_) (fun hb => ?_)
    · exact ex_return (ev_bin (ev_local (by repeat first | exact GetAt.head | apply GetAt.tail)) (ev_bin (ev_local (by repeat first | exact GetAt.head | apply GetAt.tail)) (ev_local (by repeat first | exact GetAt.head | apply GetAt.tail)) (by first | exact op_add | exact op_sub | exact op_mod (by first | assumption | lia | (simp; done) | (simp; lia)) | exact op_div (by first | assumption | lia | (simp; done) | (simp; lia)) (PyProof.noPylong_small (by lia)) | exact op_mul (mul_okR (by lia)) | exact op_mul (mul_okL (by lia)) | exact op_adds (by first | assumption | lia | (simp; done) | (simp; lia)) | exact op_addl (by first | assumption | lia | (simp; done) | (simp; lia)) | exact op_muls (by first | assumption | lia | (simp; done) | (simp; lia)) (by first | assumption | lia | (simp; done) | (simp; lia)) | exact op_mull (by first | assumption | lia | (simp; done) | (simp; lia)) (by first | assumption | lia | (simp; done) | (simp; lia)) (by first | assumption | lia | (simp; done) | (simp; lia)))) (by first | exact op_add | exact op_sub | exact op_mod (by first | assumption | lia | (simp; done) | (simp; lia)) | exact op_div (by first | assumption | lia | (simp; done) | (simp; lia)) (PyProof.noPylong_small (by lia)) | exact op_mul (mul_okR (by lia)) | exact op_mul (mul_okL (by lia)) | exact op_adds (by first | assumption | lia | (simp; done) | (simp; lia)) | exact op_addl (by first | assumption | lia | (simp; done) | (simp; lia)) | exact op_muls (by first | assumption | lia | (simp; done) | (simp; lia)) (by first | assumption | lia | (simp; done) | (simp; lia)) | exact op_mull (by first | assumption | lia | (simp; done) | (simp; lia)) (by first | assumption | lia | (simp; done) | (simp; lia)) (by first | assumption | lia | (simp; done) | (simp; lia)))) ⟨by simp at hb; simp [wat, hb], rfl⟩
    · refine ex_if (et_or (et_cmp (ev_local (by repeat first | exact GetAt.head | apply GetAt.tail)) (ev_global (by repeat first | exact List.Mem.head _ | apply List.Mem.tail) K.g_SPACE fun _ _ => .int) (by first | exact cp_lt | exact cp_le | exact cp_gt | exact cp_ge | exact cp_eq | exact cp_ne | exact cp_eqs | exact cp_nes | exact cp_eqb | exact cp_in_tup | exact cp_notin_tup | exact cp_in_str | exact cp_notin_str)) (fun hb => (et_cmp (ev_local (by repeat first | exact GetAt.head | apply GetAt.tail)) (ev_global (by repeat first | exact List.Mem.head _ | apply List.Mem.tail) K.g_DELETE fun _ _ => .int) (by first | exact cp_lt | exact cp_le | exact cp_gt | exact cp_ge | exact cp_eq | exact cp_ne | exact cp_eqs | exact cp_nes | exact cp_eqb | exact cp_in_tup | exact cp_notin_tup | exact cp_in_str | exact cp_notin_str)))) (fun hb' => ?_) (fun hb' => ?_)
      · exact ex_return ev_int ⟨by simp at hb hb'; simp [wat, hb, hb'], rfl⟩
      · exact ex_return (ev_if (p := .int (wat cd n w')) (et_cmp2 (ev_global (by repeat first | exact List.Mem.head _ | apply List.Mem.tail) K.g_DELETE fun _ _ => .int) (ev_local (by repeat first | exact GetAt.head | apply GetAt.tail)) (by first | exact cp_lt | exact cp_le | exact cp_gt | exact cp_ge | exact cp_eq | exact cp_ne | exact cp_eqs | exact cp_nes | exact cp_eqb | exact cp_in_tup | exact cp_notin_tup | exact cp_in_str | exact cp_notin_str) (fun hc => ev_int) (by first | exact cp_lt | exact cp_le | exact cp_gt | exact cp_ge | exact cp_eq | exact cp_ne | exact cp_eqs | exact cp_nes | exact cp_eqb | exact cp_in_tup | exact cp_notin_tup | exact cp_in_str | exact cp_notin_str)) (fun hT => ev_conv ev_int (by simp at hb hb' hT; rw [wat, if_neg hb, if_neg (by lia), if_pos hT])) (fun hF => ev_conv ev_int (by simp at hb hb' hF; rw [wat, if_neg hb, if_neg (by lia), if_neg (by lia)]))) ⟨rfl, rfl⟩
end Mine

end
section
open PySem PySem.W PyProof.Rows
namespace Mine
open PySem PySem.Calls PySem.W PyProof.Rows PySem.Builtin.Str
variable {c : Cx}
set_option maxRecDepth 100000
theorem KOk.f_column_at (K : KOk c) (l : List Nat) (f : Int) {p : Int} (i : Nat) {w' : Int} (hw : 0 < w') (h : l.length < 100000) (hf : 0 ≤ f ∧ f < 100000) (hi : i ≤ l.length) (hp : p = f + i) : FnP c 3 (.ref 92) [vw l f, .int p, .int w'] (.int (colAt w' l i)) :=
  fp_of_body K.d_column_at rfl fun X => by
    subst hp
    have hb := bwd_le notN l i
    refine ex_assign ev_int (by repeat first | exact SetAt.head | apply SetAt.tail) ?_
    refine ex_for (fun m vs cs => vs = [some (vw l f), some (.int (f + i)), some (.int w'), some (.int (colN w' (((l.take i).drop (bwd notN l i)).take m) 0)), none] ∧ cs = [])
      (src_range2 (ev_builtin (by repeat first | exact List.Mem.head _ | apply List.Mem.tail) K.g_range rfl (by decide)) (el_cons (ev_call0 (ev_globalR (by repeat first | exact List.Mem.head _ | apply List.Mem.tail) K.g_line_start) K.d_line_start.isFn (el_cons (ev_local (by repeat first | exact GetAt.head | apply GetAt.tail)) (el_cons (ev_local (by repeat first | exact GetAt.head | apply GetAt.tail)) el_nil)) (K.f_line_start l f i (by lia) hi rfl) (by decide)) (el_cons (ev_local (by repeat first | exact GetAt.head | apply GetAt.tail)) el_nil)) (by lia)) ⟨rfl, rfl⟩ (fun m vs cs hm hJ => ?_) (fun vs cs hJ => ?_)
    · obtain ⟨rfl, rfl⟩ := hJ
      refine ⟨_, by (repeat first | exact SetAt.head | apply SetAt.tail), fun z => ?_⟩
      refine ex_assign (ev_bin (ev_local (by repeat first | exact GetAt.head | apply GetAt.tail)) (ev_call0 (ev_globalR (by repeat first | exact List.Mem.head _ | apply List.Mem.tail) K.g_width_at) K.d_width_at.isFn (el_cons (ev_meth K.row_ok K.row_ok.code K.d_code_at.isFn (by decide) (ev_local (by repeat first | exact GetAt.head | apply GetAt.tail)) (el_cons (ev_local (by repeat first | exact GetAt.head | apply GetAt.tail)) el_nil) (K.f_code_at _ _ (bwd notN l i + m) (by first | assumption | lia | (simp; done) | (simp; lia)) (by first | rfl | lia | (push_cast; lia) | (simp only [decide_eq_true_eq, decide_eq_false_iff_not, Bool.and_eq_true] at *; lia))) (by decide)) (el_cons (ev_local (by repeat first | exact GetAt.head | apply GetAt.tail)) (el_cons (ev_local (by repeat first | exact GetAt.head | apply GetAt.tail)) el_nil))) (K.f_width_at _ _ _ hw) (by decide)) (by first | exact op_add | exact op_sub | exact op_mod (by first | assumption | lia | (simp; done) | (simp; lia)) | exact op_div (by first | assumption | lia | (simp; done) | (simp; lia)) (PyProof.noPylong_small (by lia)) | exact op_mul (mul_okR (by lia)) | exact op_mul (mul_okL (by lia)) | exact op_adds (by first | assumption | lia | (simp; done) | (simp; lia)) | exact op_addl (by first | assumption | lia | (simp; done) | (simp; lia)) | exact op_muls (by first | assumption | lia | (simp; done) | (simp; lia)) (by first | assumption | lia | (simp; done) | (simp; lia)) | exact op_mull (by first | assumption | lia | (simp; done) | (simp; lia)) (by first | assumption | lia | (simp; done) | (simp; lia)) (by first | assumption | lia | (simp; done) | (simp; lia)))) (by repeat first | exact SetAt.head | apply SetAt.tail) (ex_nil ⟨_, _, rfl, .keep (.keep (.keep (.eq ?_ (.drop .nil)))), rfl, rfl⟩)
      have hlt : m < ((l.take i).drop (bwd notN l i)).length := by simp; lia
      rw [List.take_succ_eq_append_getElem hlt, colN_app]
      simp [colN, colf, cod_lt (show bwd notN l i + m < l.length by lia)]
    · obtain ⟨rfl, rfl⟩ := hJ
      refine ex_return (ev_local (by repeat first | exact GetAt.head | apply GetAt.tail)) ⟨?_, rfl⟩
      unfold colAt
      rw [List.take_of_length_le]
      simp; lia
theorem KOk.f_place_at (K : KOk c) (l : List Nat) (f : Int) {p : Int} (i : Nat) {w' col : Int} (hw : 0 < w') (h : l.length < 100000) (hi : i ≤ l.length) (hp : p = f + i) :
    FnP c 3 (.ref 99) [vw l f, .int p, .int col, .int w'] (.tup [.int (f + ((bwd notN l i + (pla w' col ((l.take (fwd notN l i)).drop (bwd notN l i)) 0).1 : Nat) : Int)), .int (pla w' col ((l.take (fwd notN l i)).drop (bwd notN l i)) 0).2]) :=
  fp_of_body K.d_place_at rfl fun X => by
    subst hp
    have hb := bwd_le notN l i
    have hfl := fwd_le notN l hi
    have hfg := fwd_ge notN l i
    refine ex_assign (ev_call0 (ev_globalR (by repeat first | exact List.Mem.head _ | apply List.Mem.tail) K.g_line_start) K.d_line_start.isFn (el_cons (ev_local (by repeat first | exact GetAt.head | apply GetAt.tail)) (el_cons (ev_local (by repeat first | exact GetAt.head | apply GetAt.tail)) el_nil)) (K.f_line_start l f i (by lia) hi rfl) (by decide)) (by repeat first | exact SetAt.head | apply SetAt.tail) ?_
    refine ex_assign (ev_call0 (ev_globalR (by repeat first | exact List.Mem.head _ | apply List.Mem.tail) K.g_line_end) K.d_line_end.isFn (el_cons (ev_local (by repeat first | exact GetAt.head | apply GetAt.tail)) (el_cons (ev_local (by repeat first | exact GetAt.head | apply GetAt.tail)) el_nil)) (K.f_line_end l f i (by lia) hi rfl) (by decide)) (by repeat first | exact SetAt.head | apply SetAt.tail) ?_
    refine ex_assign ev_int (by repeat first | exact SetAt.head | apply SetAt.tail) ?_
    refine ex_while (fun a : Nat × Int => [some (vw l f), some (.int (f + i)), some (.int col), some (.int w'), some (.int (f + ((bwd notN l i + a.1 : Nat) : Int))), some (.int (f + (fwd notN l i : Nat))), some (.int a.2)]) (fun _ => [])
      (fun a => bwd notN l i + a.1 ≤ fwd notN l i ∧ a.1 + (pla w' col (((l.take (fwd notN l i)).drop (bwd notN l i)).drop a.1) a.2).1 = (pla w' col ((l.take (fwd notN l i)).drop (bwd notN l i)) 0).1 ∧ (pla w' col (((l.take (fwd notN l i)).drop (bwd notN l i)).drop a.1) a.2).2 = (pla w' col ((l.take (fwd notN l i)).drop (bwd notN l i)) 0).2)
      (fun a => l.length - a.1) (0, 0) (fun a => decide (bwd notN l i + a.1 < fwd notN l i) && decide (a.2 < col)) (Fsub.refl _) rfl ⟨by lia, by simp, by simp⟩ (fun a ha => ?_) (fun a ha hb' => ?_) (fun a ha hb' => ?_)
    · exact et_conv (et_and (et_cmp (ev_local (by repeat first | exact GetAt.head | apply GetAt.tail)) (ev_local (by repeat first | exact GetAt.head | apply GetAt.tail)) (by first | exact cp_lt | exact cp_le | exact cp_gt | exact cp_ge | exact cp_eq | exact cp_ne | exact cp_eqs | exact cp_nes | exact cp_eqb | exact cp_in_tup | exact cp_notin_tup | exact cp_in_str | exact cp_notin_str)) (fun hb => (et_cmp (ev_local (by repeat first | exact GetAt.head | apply GetAt.tail)) (ev_local (by repeat first | exact GetAt.head | apply GetAt.tail)) (by first | exact cp_lt | exact cp_le | exact cp_gt | exact cp_ge | exact cp_eq | exact cp_ne | exact cp_eqs | exact cp_nes | exact cp_eqb | exact cp_in_tup | exact cp_notin_tup | exact cp_in_str | exact cp_notin_str)))) (by congr 1; exact decide_eq_decide.mpr (by lia))
    · obtain ⟨j, r⟩ := a
      obtain ⟨h1, h2, h3⟩ := ha
      simp only [Bool.and_eq_true, decide_eq_true_eq] at hb' h1 h2 h3 ⊢
      have hlt : j < ((l.take (fwd notN l i)).drop (bwd notN l i)).length := by simp; lia
      rw [List.drop_eq_getElem_cons hlt, pla, if_pos hb'.2] at h2 h3
      refine ex_assign (ev_bin (ev_local (by repeat first | exact GetAt.head | apply GetAt.tail)) (ev_call0 (ev_globalR (by repeat first | exact List.Mem.head _ | apply List.Mem.tail) K.g_width_at) K.d_width_at.isFn (el_cons (ev_meth K.row_ok K.row_ok.code K.d_code_at.isFn (by decide) (ev_local (by repeat first | exact GetAt.head | apply GetAt.tail)) (el_cons (ev_local (by repeat first | exact GetAt.head | apply GetAt.tail)) el_nil) (K.f_code_at _ _ (bwd notN l i + j) (by first | assumption | lia | (simp; done) | (simp; lia)) (by first | rfl | lia | (push_cast; lia) | (simp only [decide_eq_true_eq, decide_eq_false_iff_not, Bool.and_eq_true] at *; lia))) (by decide)) (el_cons (ev_local (by repeat first | exact GetAt.head | apply GetAt.tail)) (el_cons (ev_local (by repeat first | exact GetAt.head | apply GetAt.tail)) el_nil))) (K.f_width_at _ _ _ hw) (by decide)) (by first | exact op_add | exact op_sub | exact op_mod (by first | assumption | lia | (simp; done) | (simp; lia)) | exact op_div (by first | assumption | lia | (simp; done) | (simp; lia)) (PyProof.noPylong_small (by lia)) | exact op_mul (mul_okR (by lia)) | exact op_mul (mul_okL (by lia)) | exact op_adds (by first | assumption | lia | (simp; done) | (simp; lia)) | exact op_addl (by first | assumption | lia | (simp; done) | (simp; lia)) | exact op_muls (by first | assumption | lia | (simp; done) | (simp; lia)) (by first | assumption | lia | (simp; done) | (simp; lia)) | exact op_mull (by first | assumption | lia | (simp; done) | (simp; lia)) (by first | assumption | lia | (simp; done) | (simp; lia)) (by first | assumption | lia | (simp; done) | (simp; lia)))) (by repeat first | exact SetAt.head | apply SetAt.tail) ?_
      refine ex_assign (ev_bin (ev_local (by repeat first | exact GetAt.head | apply GetAt.tail)) ev_int (by first | exact op_add | exact op_sub | exact op_mod (by first | assumption | lia | (simp; done) | (simp; lia)) | exact op_div (by first | assumption | lia | (simp; done) | (simp; lia)) (PyProof.noPylong_small (by lia)) | exact op_mul (mul_okR (by lia)) | exact op_mul (mul_okL (by lia)) | exact op_adds (by first | assumption | lia | (simp; done) | (simp; lia)) | exact op_addl (by first | assumption | lia | (simp; done) | (simp; lia)) | exact op_muls (by first | assumption | lia | (simp; done) | (simp; lia)) (by first | assumption | lia | (simp; done) | (simp; lia)) | exact op_mull (by first | assumption | lia | (simp; done) | (simp; lia)) (by first | assumption | lia | (simp; done) | (simp; lia)) (by first | assumption | lia | (simp; done) | (simp; lia)))) (by repeat first | exact SetAt.head | apply SetAt.tail) (ex_nil ⟨(j + 1, colf w' r ((l.take (fwd notN l i)).drop (bwd notN l i))[j]), ⟨by simp only; lia, by simp only; lia, h3⟩, by simp only; lia, .keep (.keep (.keep (.keep (.eq (by simp only; congr 1; lia) (.keep (.eq ?_ .nil)))))), rfl⟩)
      simp [colf, cod_lt (show bwd notN l i + j < l.length by lia)]
    · obtain ⟨j, r⟩ := a
      obtain ⟨h1, h2, h3⟩ := ha
      simp only at h1 h2 h3
      have e : pla w' col (((l.take (fwd notN l i)).drop (bwd notN l i)).drop j) r = (0, r) := by
        cases hd : ((l.take (fwd notN l i)).drop (bwd notN l i)).drop j with
        | nil => rfl
        | cons n t =>
          rw [pla, if_neg]
          intro hr
          have : j < ((l.take (fwd notN l i)).drop (bwd notN l i)).length := by
            have := congrArg List.length hd
            simp at this; simp; lia
          simp at this hb'; lia
      rw [e] at h2 h3
      simp only [Nat.add_zero] at h2 h3
      exact ex_return (ev_tuple (el_cons (ev_local (by repeat first | exact GetAt.head | apply GetAt.tail)) (el_cons (ev_local (by repeat first | exact GetAt.head | apply GetAt.tail)) el_nil)) (by simp)) ⟨by rw [← h2, ← h3], rfl⟩
theorem KOk.f_indentation_at (K : KOk c) (l : List Nat) (f : Int) {p : Int} (i : Nat) {w' : Int} (hw : 0 < w') (h : l.length < 100000) (hi : i ≤ l.length) (hp : p = f + i) :
    FnP c 3 (.ref 106) [vw l f, .int p, .int w'] (.int (indAt w' l i)) :=
  fp_of_body K.d_indentation_at rfl fun X => by
    subst hp
    have hb := bwd_le notN l i
    refine ex_assign (ev_call0 (ev_globalR (by repeat first | exact List.Mem.head _ | apply List.Mem.tail) K.g_line_start) K.d_line_start.isFn (el_cons (ev_local (by repeat first | exact GetAt.head | apply GetAt.tail)) (el_cons (ev_local (by repeat first | exact GetAt.head | apply GetAt.tail)) el_nil)) (K.f_line_start l f i (by lia) hi rfl) (by decide)) (by repeat first | exact SetAt.head | apply SetAt.tail) ?_
    refine ex_assign ev_int (by repeat first | exact SetAt.head | apply SetAt.tail) ?_
    refine ex_while (fun a : Nat × Int => [some (vw l f), some (.int (f + i)), some (.int w'), some (.int (f + (a.1 : Nat))), some (.int a.2)]) (fun _ => [])
      (fun a => a.1 ≤ l.length ∧ colN w' ((l.drop a.1).takeWhile fun n : Nat => isB n) a.2 = indAt w' l i)
      (fun a => l.length - a.1) (bwd notN l i, 0) (fun a => isB (cod l a.1)) (Fsub.refl _) rfl ⟨by simp only; lia, rfl⟩ (fun a ha => ?_) (fun a ha hb' => ?_) (fun a ha hb' => ?_)
    · exact et_conv (et_cmp (ev_meth K.row_ok K.row_ok.code K.d_code_at.isFn (by decide) (ev_local (by repeat first | exact GetAt.head | apply GetAt.tail)) (el_cons (ev_local (by repeat first | exact GetAt.head | apply GetAt.tail)) el_nil) (K.f_code_at _ _ a.1 (by first | assumption | lia | (simp; done) | (simp; lia)) (by first | rfl | lia | (push_cast; lia) | (simp only [decide_eq_true_eq, decide_eq_false_iff_not, Bool.and_eq_true] at *; lia))) (by decide)) (ev_global (by repeat first | exact List.Mem.head _ | apply List.Mem.tail) K.g_BLANKS K.is_BLANKS) (by first | exact cp_lt | exact cp_le | exact cp_gt | exact cp_ge | exact cp_eq | exact cp_ne | exact cp_eqs | exact cp_nes | exact cp_eqb | exact cp_in_tup | exact cp_notin_tup | exact cp_in_str | exact cp_notin_str)) rfl
    · obtain ⟨j, r⟩ := a
      obtain ⟨h1, h2⟩ := ha
      simp only at hb' h1 h2 ⊢
      have hj : j < l.length := by
        apply Nat.lt_of_not_le; intro hn; rw [cod_ge hn] at hb'; exact absurd hb' (by decide)
      rw [List.drop_eq_getElem_cons hj, List.takeWhile_cons, if_pos (by rw [← cod_lt hj]; exact hb')] at h2
      refine ex_assign (ev_bin (ev_local (by repeat first | exact GetAt.head | apply GetAt.tail)) (ev_call0 (ev_globalR (by repeat first | exact List.Mem.head _ | apply List.Mem.tail) K.g_width_at) K.d_width_at.isFn (el_cons (ev_meth K.row_ok K.row_ok.code K.d_code_at.isFn (by decide) (ev_local (by repeat first | exact GetAt.head | apply GetAt.tail)) (el_cons (ev_local (by repeat first | exact GetAt.head | apply GetAt.tail)) el_nil) (K.f_code_at _ _ j (by first | assumption | lia | (simp; done) | (simp; lia)) (by first | rfl | lia | (push_cast; lia) | (simp only [decide_eq_true_eq, decide_eq_false_iff_not, Bool.and_eq_true] at *; lia))) (by decide)) (el_cons (ev_local (by repeat first | exact GetAt.head | apply GetAt.tail)) (el_cons (ev_local (by repeat first | exact GetAt.head | apply GetAt.tail)) el_nil))) (K.f_width_at _ _ _ hw) (by decide)) (by first | exact op_add | exact op_sub | exact op_mod (by first | assumption | lia | (simp; done) | (simp; lia)) | exact op_div (by first | assumption | lia | (simp; done) | (simp; lia)) (PyProof.noPylong_small (by lia)) | exact op_mul (mul_okR (by lia)) | exact op_mul (mul_okL (by lia)) | exact op_adds (by first | assumption | lia | (simp; done) | (simp; lia)) | exact op_addl (by first | assumption | lia | (simp; done) | (simp; lia)) | exact op_muls (by first | assumption | lia | (simp; done) | (simp; lia)) (by first | assumption | lia | (simp; done) | (simp; lia)) | exact op_mull (by first | assumption | lia | (simp; done) | (simp; lia)) (by first | assumption | lia | (simp; done) | (simp; lia)) (by first | assumption | lia | (simp; done) | (simp; lia)))) (by repeat first | exact SetAt.head | apply SetAt.tail) ?_
      refine ex_assign (ev_bin (ev_local (by repeat first | exact GetAt.head | apply GetAt.tail)) ev_int (by first | exact op_add | exact op_sub | exact op_mod (by first | assumption | lia | (simp; done) | (simp; lia)) | exact op_div (by first | assumption | lia | (simp; done) | (simp; lia)) (PyProof.noPylong_small (by lia)) | exact op_mul (mul_okR (by lia)) | exact op_mul (mul_okL (by lia)) | exact op_adds (by first | assumption | lia | (simp; done) | (simp; lia)) | exact op_addl (by first | assumption | lia | (simp; done) | (simp; lia)) | exact op_muls (by first | assumption | lia | (simp; done) | (simp; lia)) (by first | assumption | lia | (simp; done) | (simp; lia)) | exact op_mull (by first | assumption | lia | (simp; done) | (simp; lia)) (by first | assumption | lia | (simp; done) | (simp; lia)) (by first | assumption | lia | (simp; done) | (simp; lia)))) (by repeat first | exact SetAt.head | apply SetAt.tail) (ex_nil ⟨(j + 1, colf w' r l[j]), ⟨hj, h2⟩, by simp only; lia, .keep (.keep (.keep (.eq (by simp only; congr 1; lia) (.eq ?_ .nil)))), rfl⟩)
      simp [colf, cod_lt hj]
    · obtain ⟨j, r⟩ := a
      obtain ⟨h1, h2⟩ := ha
      simp only at hb' h1 h2 ⊢
      refine ex_return (ev_local (by repeat first | exact GetAt.head | apply GetAt.tail)) ⟨?_, rfl⟩
      rw [← h2]
      have e : ((l.drop j).takeWhile fun n : Nat => isB n) = [] := by
        by_cases hj : j < l.length
        · rw [List.drop_eq_getElem_cons hj, List.takeWhile_cons, if_neg (by rw [← cod_lt hj, hb']; decide)]
        · rw [List.drop_eq_nil_of_le (by lia)]; rfl
      rw [e]; rfl
theorem KOk.f_blanks_to (K : KOk c) (col want w' : Int) (tabs : Bool) (hw : 0 < w' ∧ w' ≤ 1000) (h1 : -400000 ≤ col ∧ col ≤ 400000) (h2 : -400000 ≤ want ∧ want ≤ 400000) :
    FnP c 1 (.ref 113) [.int col, .int want, .int w', .bool tabs] (.list ((bt col want w' tabs).map fun n : Nat => .int n)) :=
  fp_of_body K.d_blanks_to rfl fun X => by
    have b1 := div_bd hw.1 h1.1 h1.2
    have b2 := div_bd hw.1 h2.1 h2.2
    have b3 := mod_bd (a := want) hw.1
    have hw0 := hw.1
    have rep : ∀ (n m : Nat), (List.replicate m [PV.int n]).flatten = (List.replicate m n).map fun n : Nat => PV.int n := fun n m => by rw [flat_one, List.map_replicate]
    refine ex_assign (ev_if (p := .int (tabsN col want w' tabs)) (et_and (et_value (ev_local (by repeat first | exact GetAt.head | apply GetAt.tail))) (fun hb => (et_cmp (ev_local (by repeat first | exact GetAt.head | apply GetAt.tail)) (ev_local (by repeat first | exact GetAt.head | apply GetAt.tail)) (by first | exact cp_lt | exact cp_le | exact cp_gt | exact cp_ge | exact cp_eq | exact cp_ne | exact cp_eqs | exact cp_nes | exact cp_eqb | exact cp_in_tup | exact cp_notin_tup | exact cp_in_str | exact cp_notin_str)))) (fun hT => ev_conv (ev_bin (ev_bin (ev_local (by repeat first | exact GetAt.head | apply GetAt.tail)) (ev_local (by repeat first | exact GetAt.head | apply GetAt.tail)) (by first | exact op_add | exact op_sub | exact op_mod (by first | assumption | lia | (simp; done) | (simp; lia)) | exact op_div (by first | assumption | lia | (simp; done) | (simp; lia)) (PyProof.noPylong_small (by lia)) | exact op_mul (mul_okR (by lia)) | exact op_mul (mul_okL (by lia)) | exact op_adds (by first | assumption | lia | (simp; done) | (simp; lia)) | exact op_addl (by first | assumption | lia | (simp; done) | (simp; lia)) | exact op_muls (by first | assumption | lia | (simp; done) | (simp; lia)) (by first | assumption | lia | (simp; done) | (simp; lia)) | exact op_mull (by first | assumption | lia | (simp; done) | (simp; lia)) (by first | assumption | lia | (simp; done) | (simp; lia)) (by first | assumption | lia | (simp; done) | (simp; lia)))) (ev_bin (ev_local (by repeat first | exact GetAt.head | apply GetAt.tail)) (ev_local (by repeat first | exact GetAt.head | apply GetAt.tail)) (by first | exact op_add | exact op_sub | exact op_mod (by first | assumption | lia | (simp; done) | (simp; lia)) | exact op_div (by first | assumption | lia | (simp; done) | (simp; lia)) (PyProof.noPylong_small (by lia)) | exact op_mul (mul_okR (by lia)) | exact op_mul (mul_okL (by lia)) | exact op_adds (by first | assumption | lia | (simp; done) | (simp; lia)) | exact op_addl (by first | assumption | lia | (simp; done) | (simp; lia)) | exact op_muls (by first | assumption | lia | (simp; done) | (simp; lia)) (by first | assumption | lia | (simp; done) | (simp; lia)) | exact op_mull (by first | assumption | lia | (simp; done) | (simp; lia)) (by first | assumption | lia | (simp; done) | (simp; lia)) (by first | assumption | lia | (simp; done) | (simp; lia)))) (by first | exact op_add | exact op_sub | exact op_mod (by first | assumption | lia | (simp; done) | (simp; lia)) | exact op_div (by first | assumption | lia | (simp; done) | (simp; lia)) (PyProof.noPylong_small (by lia)) | exact op_mul (mul_okR (by lia)) | exact op_mul (mul_okL (by lia)) | exact op_adds (by first | assumption | lia | (simp; done) | (simp; lia)) | exact op_addl (by first | assumption | lia | (simp; done) | (simp; lia)) | exact op_muls (by first | assumption | lia | (simp; done) | (simp; lia)) (by first | assumption | lia | (simp; done) | (simp; lia)) | exact op_mull (by first | assumption | lia | (simp; done) | (simp; lia)) (by first | assumption | lia | (simp; done) | (simp; lia)) (by first | assumption | lia | (simp; done) | (simp; lia)))) (by rw [tabsN, if_pos hT])) (fun hF => ev_conv ev_int (by rw [tabsN, if_neg (by rw [hF]; decide)]))) (by repeat first | exact SetAt.head | apply SetAt.tail) ?_
    have hbd : tabsN col want w' tabs ≤ 800000 ∧ -800000 ≤ tabsN col want w' tabs := by unfold tabsN; split <;> lia
    refine ex_if (et_cmp (ev_local (by repeat first | exact GetAt.head | apply GetAt.tail)) ev_int (by first | exact cp_lt | exact cp_le | exact cp_gt | exact cp_ge | exact cp_eq | exact cp_ne | exact cp_eqs | exact cp_nes | exact cp_eqb | exact cp_in_tup | exact cp_notin_tup | exact cp_in_str | exact cp_notin_str)) (fun hb => ?_) (fun hb => ?_)
    · simp only [decide_eq_true_eq] at hb
      refine ex_return (ev_bin (ev_bin (ev_list (el_cons (ev_global (by repeat first | exact List.Mem.head _ | apply List.Mem.tail) K.g_TAB fun _ _ => .int) el_nil) (by simp)) (ev_local (by repeat first | exact GetAt.head | apply GetAt.tail)) (by first | exact op_add | exact op_sub | exact op_mod (by first | assumption | lia | (simp; done) | (simp; lia)) | exact op_div (by first | assumption | lia | (simp; done) | (simp; lia)) (PyProof.noPylong_small (by lia)) | exact op_mul (mul_okR (by lia)) | exact op_mul (mul_okL (by lia)) | exact op_adds (by first | assumption | lia | (simp; done) | (simp; lia)) | exact op_addl (by first | assumption | lia | (simp; done) | (simp; lia)) | exact op_muls (by first | assumption | lia | (simp; done) | (simp; lia)) (by first | assumption | lia | (simp; done) | (simp; lia)) | exact op_mull (by first | assumption | lia | (simp; done) | (simp; lia)) (by first | assumption | lia | (simp; done) | (simp; lia)) (by first | assumption | lia | (simp; done) | (simp; lia)))) (ev_bin (ev_list (el_cons (ev_global (by repeat first | exact List.Mem.head _ | apply List.Mem.tail) K.g_SPACE fun _ _ => .int) el_nil) (by simp)) (ev_bin (ev_local (by repeat first | exact GetAt.head | apply GetAt.tail)) (ev_local (by repeat first | exact GetAt.head | apply GetAt.tail)) (by first | exact op_add | exact op_sub | exact op_mod (by first | assumption | lia | (simp; done) | (simp; lia)) | exact op_div (by first | assumption | lia | (simp; done) | (simp; lia)) (PyProof.noPylong_small (by lia)) | exact op_mul (mul_okR (by lia)) | exact op_mul (mul_okL (by lia)) | exact op_adds (by first | assumption | lia | (simp; done) | (simp; lia)) | exact op_addl (by first | assumption | lia | (simp; done) | (simp; lia)) | exact op_muls (by first | assumption | lia | (simp; done) | (simp; lia)) (by first | assumption | lia | (simp; done) | (simp; lia)) | exact op_mull (by first | assumption | lia | (simp; done) | (simp; lia)) (by first | assumption | lia | (simp; done) | (simp; lia)) (by first | assumption | lia | (simp; done) | (simp; lia)))) (by first | exact op_add | exact op_sub | exact op_mod (by first | assumption | lia | (simp; done) | (simp; lia)) | exact op_div (by first | assumption | lia | (simp; done) | (simp; lia)) (PyProof.noPylong_small (by lia)) | exact op_mul (mul_okR (by lia)) | exact op_mul (mul_okL (by lia)) | exact op_adds (by first | assumption | lia | (simp; done) | (simp; lia)) | exact op_addl (by first | assumption | lia | (simp; done) | (simp; lia)) | exact op_muls (by first | assumption | lia | (simp; done) | (simp; lia)) (by first | assumption | lia | (simp; done) | (simp; lia)) | exact op_mull (by first | assumption | lia | (simp; done) | (simp; lia)) (by first | assumption | lia | (simp; done) | (simp; lia)) (by first | assumption | lia | (simp; done) | (simp; lia)))) (by first | exact op_add | exact op_sub | exact op_mod (by first | assumption | lia | (simp; done) | (simp; lia)) | exact op_div (by first | assumption | lia | (simp; done) | (simp; lia)) (PyProof.noPylong_small (by lia)) | exact op_mul (mul_okR (by lia)) | exact op_mul (mul_okL (by lia)) | exact op_adds (by first | assumption | lia | (simp; done) | (simp; lia)) | exact op_addl (by first | assumption | lia | (simp; done) | (simp; lia)) | exact op_muls (by first | assumption | lia | (simp; done) | (simp; lia)) (by first | assumption | lia | (simp; done) | (simp; lia)) | exact op_mull (by first | assumption | lia | (simp; done) | (simp; lia)) (by first | assumption | lia | (simp; done) | (simp; lia)) (by first | assumption | lia | (simp; done) | (simp; lia)))) ⟨?_, rfl⟩
      rw [bt, if_pos hb, List.map_append, ← rep, ← rep]; rfl
    · simp only [decide_eq_false_iff_not] at hb
      refine ex_return (ev_bin (ev_list (el_cons (ev_global (by repeat first | exact List.Mem.head _ | apply List.Mem.tail) K.g_SPACE fun _ _ => .int) el_nil) (by simp)) (ev_callB (ev_builtin (by repeat first | exact List.Mem.head _ | apply List.Mem.tail) K.g_max rfl (by decide)) (el_cons ev_int (el_cons (ev_bin (ev_local (by repeat first | exact GetAt.head | apply GetAt.tail)) (ev_local (by repeat first | exact GetAt.head | apply GetAt.tail)) (by first | exact op_add | exact op_sub | exact op_mod (by first | assumption | lia | (simp; done) | (simp; lia)) | exact op_div (by first | assumption | lia | (simp; done) | (simp; lia)) (PyProof.noPylong_small (by lia)) | exact op_mul (mul_okR (by lia)) | exact op_mul (mul_okL (by lia)) | exact op_adds (by first | assumption | lia | (simp; done) | (simp; lia)) | exact op_addl (by first | assumption | lia | (simp; done) | (simp; lia)) | exact op_muls (by first | assumption | lia | (simp; done) | (simp; lia)) (by first | assumption | lia | (simp; done) | (simp; lia)) | exact op_mull (by first | assumption | lia | (simp; done) | (simp; lia)) (by first | assumption | lia | (simp; done) | (simp; lia)) (by first | assumption | lia | (simp; done) | (simp; lia)))) el_nil)) (by first | exact bi_len_list (by first | assumption | lia | (simp; done) | (simp; lia)) | exact bi_len_str (by first | assumption | lia | (simp; done) | (simp; lia)) | exact bi_abs | exact bi_max | exact bi_min | exact bi_chr (by first | assumption | lia | (simp; done) | (simp; lia)) (by first | assumption | lia | (simp; done) | (simp; lia)) | exact bi_ord | exact bi_lstrip (by first | assumption | lia | (simp; done) | (simp; lia)) | exact bi_rstrip (by first | assumption | lia | (simp; done) | (simp; lia)) | exact bi_strip (by first | assumption | lia | (simp; done) | (simp; lia)) | exact bi_count | exact bi_expandtabs (by first | assumption | lia | (simp; done) | (simp; lia)) (by first | assumption | lia | (simp; done) | (simp; lia)) (by first | assumption | lia | (simp; done) | (simp; lia)) | exact bi_split (by first | assumption | lia | (simp; done) | (simp; lia)) | exact bi_sorted2)) (by first | exact op_add | exact op_sub | exact op_mod (by first | assumption | lia | (simp; done) | (simp; lia)) | exact op_div (by first | assumption | lia | (simp; done) | (simp; lia)) (PyProof.noPylong_small (by lia)) | exact op_mul (mul_okR (by lia)) | exact op_mul (mul_okL (by lia)) | exact op_adds (by first | assumption | lia | (simp; done) | (simp; lia)) | exact op_addl (by first | assumption | lia | (simp; done) | (simp; lia)) | exact op_muls (by first | assumption | lia | (simp; done) | (simp; lia)) (by first | assumption | lia | (simp; done) | (simp; lia)) | exact op_mull (by first | assumption | lia | (simp; done) | (simp; lia)) (by first | assumption | lia | (simp; done) | (simp; lia)) (by first | assumption | lia | (simp; done) | (simp; lia)))) ⟨?_, rfl⟩
      rw [bt, if_neg hb, ← rep]
      congr 3
      split <;> lia
end Mine

end
section
open PySem PySem.W PyProof.Rows
namespace Mine
open PySem PySem.Calls PySem.W PyProof.Rows PySem.Builtin.Str
variable {c : Cx}
set_option maxRecDepth 100000
theorem KOk.f_starts_in (K : KOk c) (l : List Nat) (f : Int) {p q : Int} (lo hi : Nat) (h : l.length < 100000) (hf : 0 ≤ f) (hlo : lo ≤ l.length) (hhi : hi ≤ 100000) (hp : p = f + lo) (hq : q = f + hi) :
    FnP c 4 (.ref 120) [vw l f, .int p, .int q] (.list ((starts l lo hi).map fun i : Nat => .int (f + i))) :=
  fn_of_body K.d_starts_in rfl fun X hW => by
    subst hp; subst hq
    refine ex_assign (ev_if (p := .int (plc f (if isLB l lo then some lo else nx l lo))) (et_value (ev_call0 (ev_globalR (by repeat first | exact List.Mem.head _ | apply List.Mem.tail) K.g_is_line_begin) K.d_is_line_begin.isFn (el_cons (ev_local (by repeat first | exact GetAt.head | apply GetAt.tail)) (el_cons (ev_local (by repeat first | exact GetAt.head | apply GetAt.tail)) el_nil)) (K.f_is_line_begin l f lo (by lia) rfl) (by decide))) (fun hT => ev_conv (ev_local (by repeat first | exact GetAt.head | apply GetAt.tail)) (by rw [if_pos hT]; rfl)) (fun hF => ev_conv (ev_call0 (ev_globalR (by repeat first | exact List.Mem.head _ | apply List.Mem.tail) K.g_next_start) K.d_next_start.isFn (el_cons (ev_local (by repeat first | exact GetAt.head | apply GetAt.tail)) (el_cons (ev_local (by repeat first | exact GetAt.head | apply GetAt.tail)) el_nil)) (K.f_next_start l f lo (by lia) hlo rfl) (by decide)) (by rw [if_neg (by rw [hF]; decide)]))) (by repeat first | exact SetAt.head | apply SetAt.tail) ?_
    refine ex_new_list (vs' := fun a => [some (vw l f), some (.int (f + lo)), some (.int (f + hi)), some (.int (plc f (if isLB l lo then some lo else nx l lo))), some (.raw (.ref a))]) (fun a => by (repeat first | exact SetAt.head | apply SetAt.tail)) fun a => ?_
    refine ex_while (fun x : Nat × Option Nat × List Nat => [some (vw l f), some (.int (f + lo)), some (.int (f + hi)), some (.int (plc f x.2.1)), some (.raw (.ref a))])
      (fun x => [(a, .lst (x.2.2.map fun i : Nat => .int (f + i)))]) (fun x => x.2.2 ++ st l hi x.1 x.2.1 = starts l lo hi ∧ ∀ i, x.2.1 = some i → i ≤ l.length ∧ hi ≤ i + x.1) (fun x => x.1)
      (hi, (if isLB l lo then some lo else nx l lo), []) (fun x => match x.2.1 with | some i => decide (i < hi) | none => false) (Fsub.refl _) rfl ⟨rfl, fun i e => ?_⟩ (fun x hx => ?_) (fun x hx hb => ?_) (fun x hx hb => ?_)
    · refine ⟨?_, Nat.le_add_left _ _⟩
      simp only at e
      split at e
      · cases e; exact hlo
      · exact (nx_gt e).2
    · refine et_conv (et_cmp2 ev_int (ev_local (by repeat first | exact GetAt.head | apply GetAt.tail)) (by first | exact cp_lt | exact cp_le | exact cp_gt | exact cp_ge | exact cp_eq | exact cp_ne | exact cp_eqs | exact cp_nes | exact cp_eqb | exact cp_in_tup | exact cp_notin_tup | exact cp_in_str | exact cp_notin_str) (fun hc => (ev_local (by repeat first | exact GetAt.head | apply GetAt.tail))) (by first | exact cp_lt | exact cp_le | exact cp_gt | exact cp_ge | exact cp_eq | exact cp_ne | exact cp_eqs | exact cp_nes | exact cp_eqb | exact cp_in_tup | exact cp_notin_tup | exact cp_in_str | exact cp_notin_str)) ?_
      obtain ⟨k, o, fo⟩ := x
      cases o with
      | none => simp [plc]
      | some i =>
        show (decide (0 ≤ f + (i : Int)) && decide (f + (i : Int) < f + hi)) = decide (i < hi)
        apply Bool.eq_iff_iff.mpr
        simp only [Bool.and_eq_true, decide_eq_true_eq]
        lia
    · obtain ⟨k, o, fo⟩ := x
      cases o with
      | none => cases hb
      | some i =>
        obtain ⟨h1, h2⟩ := hx
        simp only [decide_eq_true_eq] at hb h1 h2 ⊢
        obtain ⟨g2, g3⟩ := h2 i rfl
        have hfo : fo.length ≤ hi := by
          have h4 := congrArg List.length h1
          have h5 : (starts l lo hi).length ≤ hi := st_length
          rw [List.length_append] at h4
          lia
        cases k with
        | zero => lia
        | succ k =>
          rw [st, if_pos hb] at h1
          refine ex_expr (ev_append (ev_local (by repeat first | exact GetAt.head | apply GetAt.tail)) (by repeat first | exact List.Mem.head _ | apply List.Mem.tail) (ev_local (by repeat first | exact GetAt.head | apply GetAt.tail)) (by repeat first | exact CsSet.head | apply CsSet.tail) (by first | assumption | lia | (simp; done) | (simp; lia))) ?_
          refine ex_assign (ev_call0 (ev_globalR (by repeat first | exact List.Mem.head _ | apply List.Mem.tail) K.g_next_start) K.d_next_start.isFn (el_cons (ev_local (by repeat first | exact GetAt.head | apply GetAt.tail)) (el_cons (ev_local (by repeat first | exact GetAt.head | apply GetAt.tail)) el_nil)) (K.f_next_start l f i (by lia) g2 rfl) (by decide)) (by repeat first | exact SetAt.head | apply SetAt.tail) (ex_nil ⟨(k, nx l i, fo ++ [i]), ⟨by rw [← h1]; simp, fun j e => ⟨(nx_gt e).2, ?_⟩⟩, Nat.lt_succ_self _, Fsub.refl _, ?_⟩)
          · have := (nx_gt e).1; simp only; lia
          · simp [plc]
    · refine ex_return (ev_frz (ev_local (by repeat first | exact GetAt.head | apply GetAt.tail)) (fun hw' => by simpa using (hW a).mp hw')) ⟨?_, rfl⟩
      obtain ⟨k, o, fo⟩ := x
      obtain ⟨h1, h2⟩ := hx
      simp only at h1 hb ⊢
      have e : st l hi k o = [] := by
        cases o with
        | none => cases k <;> rfl
        | some i => cases k with
          | zero => rfl
          | succ k => rw [st, if_neg (by simpa using hb)]
      rw [e, List.append_nil] at h1
      rw [h1]
theorem KOk.f_line_edit (K : KOk c) (l : List Nat) (f : Int) {p col : Int} (i : Nat) {w' : Int} {tabs : Bool} (hw : 0 < w' ∧ w' ≤ 1000) (h : l.length < 100000) (hc : -400000 ≤ col ∧ col ≤ 400000) (hi : i ≤ l.length) (hp : p = f + i) :
    FnP c 4 (.ref 127) [vw l f, .int p, .int col, .int w', .bool tabs] (edt f (lineE l w' tabs i col)) :=
  fp_of_body K.d_line_edit rfl fun X => by
    subst hp
    exact ex_return (ev_tuple (el_cons (ev_local (by repeat first | exact GetAt.head | apply GetAt.tail)) (el_cons (ev_call0 (ev_globalR (by repeat first | exact List.Mem.head _ | apply List.Mem.tail) K.g_indentation_end) K.d_indentation_end.isFn (el_cons (ev_local (by repeat first | exact GetAt.head | apply GetAt.tail)) (el_cons (ev_local (by repeat first | exact GetAt.head | apply GetAt.tail)) el_nil)) (K.f_indentation_end l f i (by lia) hi rfl) (by decide)) (el_cons (ev_call0 (ev_globalR (by repeat first | exact List.Mem.head _ | apply List.Mem.tail) K.g_blanks_to) K.d_blanks_to.isFn (el_cons ev_int (el_cons (ev_callB (ev_builtin (by repeat first | exact List.Mem.head _ | apply List.Mem.tail) K.g_max rfl (by decide)) (el_cons ev_int (el_cons (ev_local (by repeat first | exact GetAt.head | apply GetAt.tail)) el_nil)) (by first | exact bi_len_list (by first | assumption | lia | (simp; done) | (simp; lia)) | exact bi_len_str (by first | assumption | lia | (simp; done) | (simp; lia)) | exact bi_abs | exact bi_max | exact bi_min | exact bi_chr (by first | assumption | lia | (simp; done) | (simp; lia)) (by first | assumption | lia | (simp; done) | (simp; lia)) | exact bi_ord | exact bi_lstrip (by first | assumption | lia | (simp; done) | (simp; lia)) | exact bi_rstrip (by first | assumption | lia | (simp; done) | (simp; lia)) | exact bi_strip (by first | assumption | lia | (simp; done) | (simp; lia)) | exact bi_count | exact bi_expandtabs (by first | assumption | lia | (simp; done) | (simp; lia)) (by first | assumption | lia | (simp; done) | (simp; lia)) (by first | assumption | lia | (simp; done) | (simp; lia)) | exact bi_split (by first | assumption | lia | (simp; done) | (simp; lia)) | exact bi_sorted2)) (el_cons (ev_local (by repeat first | exact GetAt.head | apply GetAt.tail)) (el_cons (ev_local (by repeat first | exact GetAt.head | apply GetAt.tail)) el_nil)))) (K.f_blanks_to _ _ _ _ hw (by lia) (by split <;> lia)) (by decide)) el_nil))) (by simp)) ⟨rfl, rfl⟩
theorem KOk.f_rigid_edits (K : KOk c) (l : List Nat) (f : Int) {p q lby : Int} (lo hi : Nat) {w' : Int} {tabs : Bool} (hw : 0 < w' ∧ w' ≤ 1000) (h : l.length < 1000) (hf : 0 ≤ f) (hlo : lo ≤ l.length) (hhi : hi ≤ 100000) (hby : -1000 ≤ lby ∧ lby ≤ 1000) (hin : ∀ i, indAt w' l i ≤ 300000 ∧ 0 ≤ indAt w' l i) (hp : p = f + lo) (hq : q = f + hi) :
    FnP c 5 (.ref 134) [vw l f, .int p, .int q, .int lby, .int w', .bool tabs] (.list (((starts l lo hi).map fun i => edt f (rigidE l lby w' tabs i)).reverse)) :=
  fn_of_body K.d_rigid_edits rfl fun X hW => by
    subst hp; subst hq
    refine ex_new_list (vs' := fun a => [some (vw l f), some (.int (f + lo)), some (.int (f + hi)), some (.int lby), some (.int w'), some (.bool tabs), some (.raw (.ref a)), none]) (fun a => by (repeat first | exact SetAt.head | apply SetAt.tail)) fun a => ?_
    have hsl : (starts l lo hi).length ≤ hi := st_length
    refine ex_for (fun m vs cs => vs = [some (vw l f), some (.int (f + lo)), some (.int (f + hi)), some (.int lby), some (.int w'), some (.bool tabs), some (.raw (.ref a)), none] ∧ cs = [(a, .lst (((starts l lo hi).take m).map fun i => edt f (rigidE l lby w' tabs i)))])
      (src_list (ev_call0 (ev_globalR (by repeat first | exact List.Mem.head _ | apply List.Mem.tail) K.g_starts_in) K.d_starts_in.isFn (el_cons (ev_local (by repeat first | exact GetAt.head | apply GetAt.tail)) (el_cons (ev_local (by repeat first | exact GetAt.head | apply GetAt.tail)) (el_cons (ev_local (by repeat first | exact GetAt.head | apply GetAt.tail)) el_nil))) (K.f_starts_in l f lo hi (by lia) hf hlo hhi rfl rfl) (by decide))) ⟨rfl, rfl⟩ (fun m vs cs hm hJ => ?_) (fun vs cs hJ => ?_)
    · obtain ⟨rfl, rfl⟩ := hJ
      rw [List.length_map] at hm
      obtain ⟨hb1, hb2⟩ := starts_mem hlo (List.getElem_mem hm)
      refine ⟨[some (vw l f), some (.int (f + lo)), some (.int (f + hi)), some (.int lby), some (.int w'), some (.bool tabs), some (.raw (.ref a)), some (.int (f + ((starts l lo hi)[m] : Nat)))], ?_, fun z => ?_⟩
      · rw [show (List.map (fun i : Nat => PV.int (f + i)) (starts l lo hi)).getD m .none = .int (f + ((starts l lo hi)[m] : Nat)) by simp [List.getD, hm]]
        (repeat first | exact SetAt.head | apply SetAt.tail)
      · generalize hgi : (starts l lo hi)[m] = i at hb1 hb2
        have hin' := hin i
        have htk : (starts l lo hi).take (m + 1) = (starts l lo hi).take m ++ [i] := by rw [List.take_succ_eq_append_getElem hm, hgi]
        have hml : ((starts l lo hi).take m).length ≤ 1000000 := by rw [List.length_take]; lia
        refine ex_if (et_value (ev_call0 (ev_globalR (by repeat first | exact List.Mem.head _ | apply List.Mem.tail) K.g_is_blank_line) K.d_is_blank_line.isFn (el_cons (ev_local (by repeat first | exact GetAt.head | apply GetAt.tail)) (el_cons (ev_local (by repeat first | exact GetAt.head | apply GetAt.tail)) el_nil)) (K.f_is_blank_line l f i (by lia) hb2 rfl) (by decide))) (fun hb => ?_) (fun hb => ?_)
        · refine ex_expr (ev_append (ev_local (by repeat first | exact GetAt.head | apply GetAt.tail)) (by repeat first | exact List.Mem.head _ | apply List.Mem.tail) (ev_tuple (el_cons (ev_local (by repeat first | exact GetAt.head | apply GetAt.tail)) (el_cons (ev_call0 (ev_globalR (by repeat first | exact List.Mem.head _ | apply List.Mem.tail) K.g_line_end) K.d_line_end.isFn (el_cons (ev_local (by repeat first | exact GetAt.head | apply GetAt.tail)) (el_cons (ev_local (by repeat first | exact GetAt.head | apply GetAt.tail)) el_nil)) (K.f_line_end l f i (by lia) hb2 rfl) (by decide)) (el_cons (ev_list el_nil (by simp)) el_nil))) (by simp)) (by repeat first | exact CsSet.head | apply CsSet.tail) (by first | assumption | lia | (simp; done) | (simp; lia))) (ex_nil ⟨_, _, rfl, .keep (.keep (.keep (.keep (.keep (.keep (.keep (.drop .nil))))))), rfl, ?_⟩)
          rw [htk, List.map_append]
          simp [rigidE, hb, edt]
        · refine ex_expr (ev_append (ev_local (by repeat first | exact GetAt.head | apply GetAt.tail)) (by repeat first | exact List.Mem.head _ | apply List.Mem.tail) (ev_call0 (ev_globalR (by repeat first | exact List.Mem.head _ | apply List.Mem.tail) K.g_line_edit) K.d_line_edit.isFn (el_cons (ev_local (by repeat first | exact GetAt.head | apply GetAt.tail)) (el_cons (ev_local (by repeat first | exact GetAt.head | apply GetAt.tail)) (el_cons (ev_bin (ev_call0 (ev_globalR (by repeat first | exact List.Mem.head _ | apply List.Mem.tail) K.g_indentation_at) K.d_indentation_at.isFn (el_cons (ev_local (by repeat first | exact GetAt.head | apply GetAt.tail)) (el_cons (ev_local (by repeat first | exact GetAt.head | apply GetAt.tail)) (el_cons (ev_local (by repeat first | exact GetAt.head | apply GetAt.tail)) el_nil))) (K.f_indentation_at l f i hw.1 (by lia) hb2 rfl) (by decide)) (ev_local (by repeat first | exact GetAt.head | apply GetAt.tail)) (by first | exact op_add | exact op_sub | exact op_mod (by first | assumption | lia | (simp; done) | (simp; lia)) | exact op_div (by first | assumption | lia | (simp; done) | (simp; lia)) (PyProof.noPylong_small (by lia)) | exact op_mul (mul_okR (by lia)) | exact op_mul (mul_okL (by lia)) | exact op_adds (by first | assumption | lia | (simp; done) | (simp; lia)) | exact op_addl (by first | assumption | lia | (simp; done) | (simp; lia)) | exact op_muls (by first | assumption | lia | (simp; done) | (simp; lia)) (by first | assumption | lia | (simp; done) | (simp; lia)) | exact op_mull (by first | assumption | lia | (simp; done) | (simp; lia)) (by first | assumption | lia | (simp; done) | (simp; lia)) (by first | assumption | lia | (simp; done) | (simp; lia)))) (el_cons (ev_local (by repeat first | exact GetAt.head | apply GetAt.tail)) (el_cons (ev_local (by repeat first | exact GetAt.head | apply GetAt.tail)) el_nil))))) (K.f_line_edit l f i hw (by lia) (by lia) hb2 rfl) (by decide)) (by repeat first | exact CsSet.head | apply CsSet.tail) (by first | assumption | lia | (simp; done) | (simp; lia))) (ex_nil ⟨_, _, rfl, .keep (.keep (.keep (.keep (.keep (.keep (.keep (.drop .nil))))))), rfl, ?_⟩)
          rw [htk, List.map_append]
          simp [rigidE, hb]
    · obtain ⟨rfl, rfl⟩ := hJ
      exact ex_return (ev_drop (ev_rev_cell (ev_local (by repeat first | exact GetAt.head | apply GetAt.tail)) (eo_some (ev_neg ev_int)) (by repeat first | exact List.Mem.head _ | apply List.Mem.tail) (by simp; lia))) ⟨by rw [List.take_of_length_le (by simp)], rfl⟩
theorem KOk.f_region_edits (K : KOk c) (l : List Nat) (f : Int) {p q col : Int} (lo hi : Nat) {w' : Int} {tabs : Bool} (hw : 0 < w' ∧ w' ≤ 1000) (h : l.length < 1000) (hf : 0 ≤ f) (hlo : lo ≤ l.length) (hhi : hi ≤ 100000) (hcol : -1000 ≤ col ∧ col ≤ 1000) (hp : p = f + lo) (hq : q = f + hi) :
    FnP c 5 (.ref 141) [vw l f, .int p, .int q, .int col, .int w', .bool tabs] (.list (((starts l lo hi).map fun i => edt f (regionE l col w' tabs i)).reverse)) :=
  fn_of_body K.d_region_edits rfl fun X hW => by
    subst hp; subst hq
    refine ex_new_list (vs' := fun a => [some (vw l f), some (.int (f + lo)), some (.int (f + hi)), some (.int col), some (.int w'), some (.bool tabs), some (.raw (.ref a)), none]) (fun a => by (repeat first | exact SetAt.head | apply SetAt.tail)) fun a => ?_
    have hsl : (starts l lo hi).length ≤ hi := st_length
    refine ex_for (fun m vs cs => vs = [some (vw l f), some (.int (f + lo)), some (.int (f + hi)), some (.int col), some (.int w'), some (.bool tabs), some (.raw (.ref a)), none] ∧ cs = [(a, .lst (((starts l lo hi).take m).map fun i => edt f (regionE l col w' tabs i)))])
      (src_list (ev_call0 (ev_globalR (by repeat first | exact List.Mem.head _ | apply List.Mem.tail) K.g_starts_in) K.d_starts_in.isFn (el_cons (ev_local (by repeat first | exact GetAt.head | apply GetAt.tail)) (el_cons (ev_local (by repeat first | exact GetAt.head | apply GetAt.tail)) (el_cons (ev_local (by repeat first | exact GetAt.head | apply GetAt.tail)) el_nil))) (K.f_starts_in l f lo hi (by lia) hf hlo hhi rfl rfl) (by decide))) ⟨rfl, rfl⟩ (fun m vs cs hm hJ => ?_) (fun vs cs hJ => ?_)
    · obtain ⟨rfl, rfl⟩ := hJ
      rw [List.length_map] at hm
      obtain ⟨hb1, hb2⟩ := starts_mem hlo (List.getElem_mem hm)
      refine ⟨[some (vw l f), some (.int (f + lo)), some (.int (f + hi)), some (.int col), some (.int w'), some (.bool tabs), some (.raw (.ref a)), some (.int (f + ((starts l lo hi)[m] : Nat)))], ?_, fun z => ?_⟩
      · rw [show (List.map (fun i : Nat => PV.int (f + i)) (starts l lo hi)).getD m .none = .int (f + ((starts l lo hi)[m] : Nat)) by simp [List.getD, hm]]
        (repeat first | exact SetAt.head | apply SetAt.tail)
      · generalize hgi : (starts l lo hi)[m] = i at hb1 hb2
        have htk : (starts l lo hi).take (m + 1) = (starts l lo hi).take m ++ [i] := by rw [List.take_succ_eq_append_getElem hm, hgi]
        have hml : ((starts l lo hi).take m).length ≤ 1000000 := by rw [List.length_take]; lia
        refine ex_expr (ev_append (ev_local (by repeat first | exact GetAt.head | apply GetAt.tail)) (by repeat first | exact List.Mem.head _ | apply List.Mem.tail) (ev_call0 (ev_globalR (by repeat first | exact List.Mem.head _ | apply List.Mem.tail) K.g_line_edit) K.d_line_edit.isFn (el_cons (ev_local (by repeat first | exact GetAt.head | apply GetAt.tail)) (el_cons (ev_local (by repeat first | exact GetAt.head | apply GetAt.tail)) (el_cons (ev_if (p := .int (if isLE l (inE l i) then 0 else col)) (et_value (ev_call0 (ev_globalR (by repeat first | exact List.Mem.head _ | apply List.Mem.tail) K.g_is_blank_line) K.d_is_blank_line.isFn (el_cons (ev_local (by repeat first | exact GetAt.head | apply GetAt.tail)) (el_cons (ev_local (by repeat first | exact GetAt.head | apply GetAt.tail)) el_nil)) (K.f_is_blank_line l f i (by lia) hb2 rfl) (by decide))) (fun hT => ev_conv ev_int (by rw [if_pos hT])) (fun hF => ev_conv (ev_local (by repeat first | exact GetAt.head | apply GetAt.tail)) (by rw [if_neg (by rw [hF]; decide)]))) (el_cons (ev_local (by repeat first | exact GetAt.head | apply GetAt.tail)) (el_cons (ev_local (by repeat first | exact GetAt.head | apply GetAt.tail)) el_nil))))) (K.f_line_edit l f i hw (by lia) (by split <;> lia) hb2 rfl) (by decide)) (by repeat first | exact CsSet.head | apply CsSet.tail) (by first | assumption | lia | (simp; done) | (simp; lia))) (ex_nil ⟨_, _, rfl, .keep (.keep (.keep (.keep (.keep (.keep (.keep (.drop .nil))))))), rfl, ?_⟩)
        rw [htk, List.map_append]
        simp [regionE]
    · obtain ⟨rfl, rfl⟩ := hJ
      exact ex_return (ev_drop (ev_rev_cell (ev_local (by repeat first | exact GetAt.head | apply GetAt.tail)) (eo_some (ev_neg ev_int)) (by repeat first | exact List.Mem.head _ | apply List.Mem.tail) (by simp; lia))) ⟨by rw [List.take_of_length_le (by simp)], rfl⟩
theorem KOk.f_untabify_edits (K : KOk c) (l : List Nat) (f : Int) {p q : Int} (lo hi : Nat) {w' : Int} (hw : 0 < w' ∧ w' ≤ 1000) (h : l.length < 1000) (hf : 0 ≤ f ∧ f < 10000) (hlo : lo ≤ hi) (hhi : hi ≤ l.length) (hp : p = f + lo) (hq : q = f + hi) :
    FnP c 5 (.ref 148) [vw l f, .int p, .int q, .int w'] (.list (((untabE w' l lo (hi - lo)).map fun e => edt f e).reverse)) :=
  fn_of_body K.d_untabify_edits rfl fun X hW => by
    subst hp; subst hq
    have hw0 := hw.1
    refine ex_new_list (vs' := fun a => [some (vw l f), some (.int (f + lo)), some (.int (f + hi)), some (.int w'), some (.raw (.ref a)), none, none]) (fun a => by (repeat first | exact SetAt.head | apply SetAt.tail)) fun a => ?_
    refine ex_for (fun m vs cs => vs = [some (vw l f), some (.int (f + lo)), some (.int (f + hi)), some (.int w'), some (.raw (.ref a)), none, none] ∧ cs = [(a, .lst ((untabE w' l lo m).map fun e => edt f e))])
      (src_range2 (ev_builtin (by repeat first | exact List.Mem.head _ | apply List.Mem.tail) K.g_range rfl (by decide)) (el_cons (ev_local (by repeat first | exact GetAt.head | apply GetAt.tail)) (el_cons (ev_local (by repeat first | exact GetAt.head | apply GetAt.tail)) el_nil)) (by lia)) ⟨rfl, rfl⟩ (fun m vs cs hm hJ => ?_) (fun vs cs hJ => ?_)
    · obtain ⟨rfl, rfl⟩ := hJ
      refine ⟨_, by (repeat first | exact SetAt.head | apply SetAt.tail), fun z => ?_⟩
      refine ex_if (et_cmp (ev_meth K.row_ok K.row_ok.code K.d_code_at.isFn (by decide) (ev_local (by repeat first | exact GetAt.head | apply GetAt.tail)) (el_cons (ev_local (by repeat first | exact GetAt.head | apply GetAt.tail)) el_nil) (K.f_code_at _ _ (lo + m) (by first | assumption | lia | (simp; done) | (simp; lia)) (by first | rfl | lia | (push_cast; lia) | (simp only [decide_eq_true_eq, decide_eq_false_iff_not, Bool.and_eq_true] at *; lia))) (by decide)) (ev_global (by repeat first | exact List.Mem.head _ | apply List.Mem.tail) K.g_TAB fun _ _ => .int) (by first | exact cp_lt | exact cp_le | exact cp_gt | exact cp_ge | exact cp_eq | exact cp_ne | exact cp_eqs | exact cp_nes | exact cp_eqb | exact cp_in_tup | exact cp_notin_tup | exact cp_in_str | exact cp_notin_str)) (fun hb => ?_) (fun hb => ?_)
      · simp only [decide_eq_true_eq] at hb
        have hlen := untabE_length w' l lo m
        have b3 := mod_bd (a := colAt w' l (lo + m)) hw.1
        refine ex_assign (ev_call0 (ev_globalR (by repeat first | exact List.Mem.head _ | apply List.Mem.tail) K.g_column_at) K.d_column_at.isFn (el_cons (ev_local (by repeat first | exact GetAt.head | apply GetAt.tail)) (el_cons (ev_local (by repeat first | exact GetAt.head | apply GetAt.tail)) (el_cons (ev_local (by repeat first | exact GetAt.head | apply GetAt.tail)) el_nil))) (K.f_column_at l f (lo + m) hw.1 (by lia) (by lia) (by lia) (by push_cast; lia)) (by decide)) (by repeat first | exact SetAt.head | apply SetAt.tail) ?_
        refine ex_expr (ev_append (ev_local (by repeat first | exact GetAt.head | apply GetAt.tail)) (by repeat first | exact List.Mem.head _ | apply List.Mem.tail) (ev_tuple (el_cons (ev_local (by repeat first | exact GetAt.head | apply GetAt.tail)) (el_cons (ev_bin (ev_local (by repeat first | exact GetAt.head | apply GetAt.tail)) ev_int (by first | exact op_add | exact op_sub | exact op_mod (by first | assumption | lia | (simp; done) | (simp; lia)) | exact op_div (by first | assumption | lia | (simp; done) | (simp; lia)) (PyProof.noPylong_small (by lia)) | exact op_mul (mul_okR (by lia)) | exact op_mul (mul_okL (by lia)) | exact op_adds (by first | assumption | lia | (simp; done) | (simp; lia)) | exact op_addl (by first | assumption | lia | (simp; done) | (simp; lia)) | exact op_muls (by first | assumption | lia | (simp; done) | (simp; lia)) (by first | assumption | lia | (simp; done) | (simp; lia)) | exact op_mull (by first | assumption | lia | (simp; done) | (simp; lia)) (by first | assumption | lia | (simp; done) | (simp; lia)) (by first | assumption | lia | (simp; done) | (simp; lia)))) (el_cons (ev_bin (ev_list (el_cons (ev_global (by repeat first | exact List.Mem.head _ | apply List.Mem.tail) K.g_SPACE fun _ _ => .int) el_nil) (by simp)) (ev_bin (ev_local (by repeat first | exact GetAt.head | apply GetAt.tail)) (ev_bin (ev_local (by repeat first | exact GetAt.head | apply GetAt.tail)) (ev_local (by repeat first | exact GetAt.head | apply GetAt.tail)) (by first | exact op_add | exact op_sub | exact op_mod (by first | assumption | lia | (simp; done) | (simp; lia)) | exact op_div (by first | assumption | lia | (simp; done) | (simp; lia)) (PyProof.noPylong_small (by lia)) | exact op_mul (mul_okR (by lia)) | exact op_mul (mul_okL (by lia)) | exact op_adds (by first | assumption | lia | (simp; done) | (simp; lia)) | exact op_addl (by first | assumption | lia | (simp; done) | (simp; lia)) | exact op_muls (by first | assumption | lia | (simp; done) | (simp; lia)) (by first | assumption | lia | (simp; done) | (simp; lia)) | exact op_mull (by first | assumption | lia | (simp; done) | (simp; lia)) (by first | assumption | lia | (simp; done) | (simp; lia)) (by first | assumption | lia | (simp; done) | (simp; lia)))) (by first | exact op_add | exact op_sub | exact op_mod (by first | assumption | lia | (simp; done) | (simp; lia)) | exact op_div (by first | assumption | lia | (simp; done) | (simp; lia)) (PyProof.noPylong_small (by lia)) | exact op_mul (mul_okR (by lia)) | exact op_mul (mul_okL (by lia)) | exact op_adds (by first | assumption | lia | (simp; done) | (simp; lia)) | exact op_addl (by first | assumption | lia | (simp; done) | (simp; lia)) | exact op_muls (by first | assumption | lia | (simp; done) | (simp; lia)) (by first | assumption | lia | (simp; done) | (simp; lia)) | exact op_mull (by first | assumption | lia | (simp; done) | (simp; lia)) (by first | assumption | lia | (simp; done) | (simp; lia)) (by first | assumption | lia | (simp; done) | (simp; lia)))) (by first | exact op_add | exact op_sub | exact op_mod (by first | assumption | lia | (simp; done) | (simp; lia)) | exact op_div (by first | assumption | lia | (simp; done) | (simp; lia)) (PyProof.noPylong_small (by lia)) | exact op_mul (mul_okR (by lia)) | exact op_mul (mul_okL (by lia)) | exact op_adds (by first | assumption | lia | (simp; done) | (simp; lia)) | exact op_addl (by first | assumption | lia | (simp; done) | (simp; lia)) | exact op_muls (by first | assumption | lia | (simp; done) | (simp; lia)) (by first | assumption | lia | (simp; done) | (simp; lia)) | exact op_mull (by first | assumption | lia | (simp; done) | (simp; lia)) (by first | assumption | lia | (simp; done) | (simp; lia)) (by first | assumption | lia | (simp; done) | (simp; lia)))) el_nil))) (by simp)) (by repeat first | exact CsSet.head | apply CsSet.tail) (by first | assumption | lia | (simp; done) | (simp; lia))) (ex_nil ⟨_, _, rfl, .keep (.keep (.keep (.keep (.keep (.drop (.drop .nil)))))), rfl, ?_⟩)
        rw [untabE, if_pos hb, List.map_append]
        simp only [List.map_cons, List.map_nil, edt, List.map_replicate, flat_one]
        push_cast
        simp only [Int.add_assoc]
      · simp only [decide_eq_false_iff_not] at hb
        refine ex_nil ⟨_, _, rfl, .keep (.keep (.keep (.keep (.keep (.drop (.drop .nil)))))), rfl, ?_⟩
        rw [untabE, if_neg hb, List.append_nil]
    · obtain ⟨rfl, rfl⟩ := hJ
      have e : (f + (hi : Int) - (f + lo)).toNat = hi - lo := by lia
      have hlen := untabE_length w' l lo (hi - lo)
      exact ex_return (ev_drop (ev_rev_cell (ev_local (by repeat first | exact GetAt.head | apply GetAt.tail)) (eo_some (ev_neg ev_int)) (by repeat first | exact List.Mem.head _ | apply List.Mem.tail) (by rw [e]; simp; lia))) ⟨by rw [e], rfl⟩
theorem KOk.f_tabify_edits (K : KOk c) (l : List Nat) (f : Int) {p q : Int} (lo hi : Nat) {w' : Int} (hw : 0 < w' ∧ w' ≤ 300) (h : l.length < 1000) (hf : 0 ≤ f ∧ f < 10000) (hlo : lo ≤ hi) (hhi : hi ≤ l.length) (hp : p = f + lo) (hq : q = f + hi) :
    FnP c 5 (.ref 155) [vw l f, .int p, .int q, .int w'] (.list (((tabE w' l hi l.length lo).map fun e => edt f e).reverse)) :=
  fn_of_body K.d_tabify_edits rfl fun X hW => by
    subst hp; subst hq
    have hw0 := hw.1
    have hcb : ∀ i, 0 ≤ colAt w' l i ∧ colAt w' l i ≤ 400000 := fun i => by
      have h1 := colAt_bd hw.1 l i
      have h2 : (l.length : Int) * (w' + 4) ≤ 1000 * (w' + 4) := Int.mul_le_mul_of_nonneg_right (by lia) (by lia)
      lia
    refine ex_new_list (vs' := fun a => [some (vw l f), some (.int (f + lo)), some (.int (f + hi)), some (.int w'), some (.raw (.ref a)), none, none, none, none]) (fun a => by (repeat first | exact SetAt.head | apply SetAt.tail)) fun a => ?_
    refine ex_assign (ev_local (by repeat first | exact GetAt.head | apply GetAt.tail)) (by repeat first | exact SetAt.head | apply SetAt.tail) ?_
    refine ex_while (fun x : Nat × Nat × List Edit => [some (vw l f), some (.int (f + lo)), some (.int (f + hi)), some (.int w'), some (.raw (.ref a)), some (.int (f + (x.2.1 : Nat))), none, none, none])
      (fun x => [(a, .lst (x.2.2.map fun e => edt f e))]) (fun x => x.2.2 ++ tabE w' l hi x.1 x.2.1 = tabE w' l hi l.length lo ∧ x.2.1 ≤ hi ∧ hi ≤ x.2.1 + x.1) (fun x => x.1)
      (l.length, lo, []) (fun x => decide (x.2.1 < hi)) (Fsub.refl _) rfl ⟨rfl, hlo, Nat.le_trans hhi (Nat.le_add_left _ _)⟩ (fun x hx => ?_) (fun x hx hb => ?_) (fun x hx hb => ?_)
    · exact et_conv (et_cmp (ev_local (by repeat first | exact GetAt.head | apply GetAt.tail)) (ev_local (by repeat first | exact GetAt.head | apply GetAt.tail)) (by first | exact cp_lt | exact cp_le | exact cp_gt | exact cp_ge | exact cp_eq | exact cp_ne | exact cp_eqs | exact cp_nes | exact cp_eqb | exact cp_in_tup | exact cp_notin_tup | exact cp_in_str | exact cp_notin_str)) (decide_eq_decide.mpr (by lia))
    · obtain ⟨k, j, fo⟩ := x
      obtain ⟨h1, h2, h3⟩ := hx
      simp only [decide_eq_true_eq] at hb h1 h2 h3 ⊢
      have hlen := tabE_length w' l hi l.length lo
      have hfo : fo.length ≤ l.length := by
        have h4 := congrArg List.length h1
        rw [List.length_append] at h4
        lia
      have hgt := tabB_gt hb (show j < l.length by lia)
      have hle := tabB_le (l := l) hb
      refine ex_assign (ev_if (p := .int (f + (tabB l hi j : Nat))) (et_cmp (ev_meth K.row_ok K.row_ok.code K.d_code_at.isFn (by decide) (ev_local (by repeat first | exact GetAt.head | apply GetAt.tail)) (el_cons (ev_local (by repeat first | exact GetAt.head | apply GetAt.tail)) el_nil) (K.f_code_at _ _ j (by first | assumption | lia | (simp; done) | (simp; lia)) (by first | rfl | lia | (push_cast; lia) | (simp only [decide_eq_true_eq, decide_eq_false_iff_not, Bool.and_eq_true] at *; lia))) (by decide)) (ev_global (by repeat first | exact List.Mem.head _ | apply List.Mem.tail) K.g_SPACE fun _ _ => .int) (by first | exact cp_lt | exact cp_le | exact cp_gt | exact cp_ge | exact cp_eq | exact cp_ne | exact cp_eqs | exact cp_nes | exact cp_eqb | exact cp_in_tup | exact cp_notin_tup | exact cp_in_str | exact cp_notin_str)) (fun hT => ev_conv (ev_callB (ev_builtin (by repeat first | exact List.Mem.head _ | apply List.Mem.tail) K.g_min rfl (by decide)) (el_cons (ev_local (by repeat first | exact GetAt.head | apply GetAt.tail)) (el_cons (ev_call0 (ev_globalR (by repeat first | exact List.Mem.head _ | apply List.Mem.tail) K.g_blanks_end) K.d_blanks_end.isFn (el_cons (ev_local (by repeat first | exact GetAt.head | apply GetAt.tail)) (el_cons (ev_local (by repeat first | exact GetAt.head | apply GetAt.tail)) el_nil)) (K.f_blanks_end l f j (by lia) (by lia) rfl) (by decide)) el_nil)) (by first | exact bi_len_list (by first | assumption | lia | (simp; done) | (simp; lia)) | exact bi_len_str (by first | assumption | lia | (simp; done) | (simp; lia)) | exact bi_abs | exact bi_max | exact bi_min | exact bi_chr (by first | assumption | lia | (simp; done) | (simp; lia)) (by first | assumption | lia | (simp; done) | (simp; lia)) | exact bi_ord | exact bi_lstrip (by first | assumption | lia | (simp; done) | (simp; lia)) | exact bi_rstrip (by first | assumption | lia | (simp; done) | (simp; lia)) | exact bi_strip (by first | assumption | lia | (simp; done) | (simp; lia)) | exact bi_count | exact bi_expandtabs (by first | assumption | lia | (simp; done) | (simp; lia)) (by first | assumption | lia | (simp; done) | (simp; lia)) (by first | assumption | lia | (simp; done) | (simp; lia)) | exact bi_split (by first | assumption | lia | (simp; done) | (simp; lia)) | exact bi_sorted2)) ?_) (fun hF => ev_conv (ev_bin (ev_local (by repeat first | exact GetAt.head | apply GetAt.tail)) ev_int (by first | exact op_add | exact op_sub | exact op_mod (by first | assumption | lia | (simp; done) | (simp; lia)) | exact op_div (by first | assumption | lia | (simp; done) | (simp; lia)) (PyProof.noPylong_small (by lia)) | exact op_mul (mul_okR (by lia)) | exact op_mul (mul_okL (by lia)) | exact op_adds (by first | assumption | lia | (simp; done) | (simp; lia)) | exact op_addl (by first | assumption | lia | (simp; done) | (simp; lia)) | exact op_muls (by first | assumption | lia | (simp; done) | (simp; lia)) (by first | assumption | lia | (simp; done) | (simp; lia)) | exact op_mull (by first | assumption | lia | (simp; done) | (simp; lia)) (by first | assumption | lia | (simp; done) | (simp; lia)) (by first | assumption | lia | (simp; done) | (simp; lia)))) ?_)) (by repeat first | exact SetAt.head | apply SetAt.tail) ?_
      · simp only [decide_eq_true_eq] at hT
        rw [tabB, if_pos hT]
        congr 1
        split <;> lia
      · simp only [decide_eq_false_iff_not] at hF
        rw [tabB, if_neg hF]
        congr 1
        lia
      · cases k with
        | zero => lia
        | succ k =>
          have hcl := hcb j
          have hcr := hcb (tabB l hi j)
          rw [tabE, if_pos hb, ← List.append_assoc] at h1
          refine ex_if (et_cmp (ev_local (by repeat first | exact GetAt.head | apply GetAt.tail)) (ev_bin (ev_local (by repeat first | exact GetAt.head | apply GetAt.tail)) ev_int (by first | exact op_add | exact op_sub | exact op_mod (by first | assumption | lia | (simp; done) | (simp; lia)) | exact op_div (by first | assumption | lia | (simp; done) | (simp; lia)) (PyProof.noPylong_small (by lia)) | exact op_mul (mul_okR (by lia)) | exact op_mul (mul_okL (by lia)) | exact op_adds (by first | assumption | lia | (simp; done) | (simp; lia)) | exact op_addl (by first | assumption | lia | (simp; done) | (simp; lia)) | exact op_muls (by first | assumption | lia | (simp; done) | (simp; lia)) (by first | assumption | lia | (simp; done) | (simp; lia)) | exact op_mull (by first | assumption | lia | (simp; done) | (simp; lia)) (by first | assumption | lia | (simp; done) | (simp; lia)) (by first | assumption | lia | (simp; done) | (simp; lia)))) (by first | exact cp_lt | exact cp_le | exact cp_gt | exact cp_ge | exact cp_eq | exact cp_ne | exact cp_eqs | exact cp_nes | exact cp_eqb | exact cp_in_tup | exact cp_notin_tup | exact cp_in_str | exact cp_notin_str)) (fun hb1 => ?_) (fun hb1 => ?_)
          · simp only [decide_eq_true_eq] at hb1
            refine ex_unpack2 (ev_tuple (el_cons (ev_call0 (ev_globalR (by repeat first | exact List.Mem.head _ | apply List.Mem.tail) K.g_column_at) K.d_column_at.isFn (el_cons (ev_local (by repeat first | exact GetAt.head | apply GetAt.tail)) (el_cons (ev_local (by repeat first | exact GetAt.head | apply GetAt.tail)) (el_cons (ev_local (by repeat first | exact GetAt.head | apply GetAt.tail)) el_nil))) (K.f_column_at l f j hw.1 (by lia) (by lia) (by lia) rfl) (by decide)) (el_cons (ev_call0 (ev_globalR (by repeat first | exact List.Mem.head _ | apply List.Mem.tail) K.g_column_at) K.d_column_at.isFn (el_cons (ev_local (by repeat first | exact GetAt.head | apply GetAt.tail)) (el_cons (ev_local (by repeat first | exact GetAt.head | apply GetAt.tail)) (el_cons (ev_local (by repeat first | exact GetAt.head | apply GetAt.tail)) el_nil))) (K.f_column_at l f (tabB l hi j) hw.1 (by lia) (by lia) (by lia) rfl) (by decide)) el_nil)) (by simp)) (by repeat first | exact SetAt.head | apply SetAt.tail) (by repeat first | exact SetAt.head | apply SetAt.tail) ?_ rfl (swap2 X (by repeat first | exact List.Mem.head _ | apply List.Mem.tail) (by repeat first | exact List.Mem.head _ | apply List.Mem.tail) (by decide) rfl rfl rfl rfl)
            refine ex_if (et_cmp (ev_bin (ev_local (by repeat first | exact GetAt.head | apply GetAt.tail)) (ev_local (by repeat first | exact GetAt.head | apply GetAt.tail)) (by first | exact op_add | exact op_sub | exact op_mod (by first | assumption | lia | (simp; done) | (simp; lia)) | exact op_div (by first | assumption | lia | (simp; done) | (simp; lia)) (PyProof.noPylong_small (by lia)) | exact op_mul (mul_okR (by lia)) | exact op_mul (mul_okL (by lia)) | exact op_adds (by first | assumption | lia | (simp; done) | (simp; lia)) | exact op_addl (by first | assumption | lia | (simp; done) | (simp; lia)) | exact op_muls (by first | assumption | lia | (simp; done) | (simp; lia)) (by first | assumption | lia | (simp; done) | (simp; lia)) | exact op_mull (by first | assumption | lia | (simp; done) | (simp; lia)) (by first | assumption | lia | (simp; done) | (simp; lia)) (by first | assumption | lia | (simp; done) | (simp; lia)))) (ev_bin (ev_local (by repeat first | exact GetAt.head | apply GetAt.tail)) (ev_local (by repeat first | exact GetAt.head | apply GetAt.tail)) (by first | exact op_add | exact op_sub | exact op_mod (by first | assumption | lia | (simp; done) | (simp; lia)) | exact op_div (by first | assumption | lia | (simp; done) | (simp; lia)) (PyProof.noPylong_small (by lia)) | exact op_mul (mul_okR (by lia)) | exact op_mul (mul_okL (by lia)) | exact op_adds (by first | assumption | lia | (simp; done) | (simp; lia)) | exact op_addl (by first | assumption | lia | (simp; done) | (simp; lia)) | exact op_muls (by first | assumption | lia | (simp; done) | (simp; lia)) (by first | assumption | lia | (simp; done) | (simp; lia)) | exact op_mull (by first | assumption | lia | (simp; done) | (simp; lia)) (by first | assumption | lia | (simp; done) | (simp; lia)) (by first | assumption | lia | (simp; done) | (simp; lia)))) (by first | exact cp_lt | exact cp_le | exact cp_gt | exact cp_ge | exact cp_eq | exact cp_ne | exact cp_eqs | exact cp_nes | exact cp_eqb | exact cp_in_tup | exact cp_notin_tup | exact cp_in_str | exact cp_notin_str)) (fun hb2 => ?_) (fun hb2 => ?_)
            · simp only [Bool.not_eq_true', decide_eq_false_iff_not] at hb2
              rw [if_pos ⟨by lia, hb2⟩] at h1
              refine ex_expr (ev_append (ev_local (by repeat first | exact GetAt.head | apply GetAt.tail)) (by repeat first | exact List.Mem.head _ | apply List.Mem.tail) (ev_tuple (el_cons (ev_local (by repeat first | exact GetAt.head | apply GetAt.tail)) (el_cons (ev_local (by repeat first | exact GetAt.head | apply GetAt.tail)) (el_cons (ev_call0 (ev_globalR (by repeat first | exact List.Mem.head _ | apply List.Mem.tail) K.g_blanks_to) K.d_blanks_to.isFn (el_cons (ev_local (by repeat first | exact GetAt.head | apply GetAt.tail)) (el_cons (ev_local (by repeat first | exact GetAt.head | apply GetAt.tail)) (el_cons (ev_local (by repeat first | exact GetAt.head | apply GetAt.tail)) (el_cons ev_bool el_nil)))) (K.f_blanks_to _ _ _ _ ⟨hw.1, by lia⟩ (by lia) (by lia)) (by decide)) el_nil))) (by simp)) (by repeat first | exact CsSet.head | apply CsSet.tail) (by first | assumption | lia | (simp; done) | (simp; lia))) ?_
              refine ex_assign (ev_local (by repeat first | exact GetAt.head | apply GetAt.tail)) (by repeat first | exact SetAt.head | apply SetAt.tail) (ex_nil ⟨(k, tabB l hi j, _), ⟨h1, hle, by simp only; lia⟩, Nat.lt_succ_self _, .keep (.keep (.keep (.keep (.keep (.keep (.drop (.drop (.drop .nil)))))))), ?_⟩)
              simp [edt]
            · simp only [Bool.not_eq_false', decide_eq_true_eq] at hb2
              rw [if_neg (fun q => q.2 hb2)] at h1
              refine ex_assign (ev_local (by repeat first | exact GetAt.head | apply GetAt.tail)) (by repeat first | exact SetAt.head | apply SetAt.tail) (ex_nil ⟨(k, tabB l hi j, _), ⟨h1, hle, by simp only; lia⟩, Nat.lt_succ_self _, .keep (.keep (.keep (.keep (.keep (.keep (.drop (.drop (.drop .nil)))))))), ?_⟩)
              simp
          · simp only [decide_eq_false_iff_not] at hb1
            rw [if_neg (fun q => hb1 (by lia))] at h1
            refine ex_assign (ev_local (by repeat first | exact GetAt.head | apply GetAt.tail)) (by repeat first | exact SetAt.head | apply SetAt.tail) (ex_nil ⟨(k, tabB l hi j, _), ⟨h1, hle, by simp only; lia⟩, Nat.lt_succ_self _, .keep (.keep (.keep (.keep (.keep (.keep (.drop (.drop (.drop .nil)))))))), ?_⟩)
            simp
    · obtain ⟨k, j, fo⟩ := x
      obtain ⟨h1, h2, h3⟩ := hx
      simp only [decide_eq_false_iff_not] at hb h1 h2 h3 ⊢
      have hlen := tabE_length w' l hi l.length lo
      have e : tabE w' l hi k j = [] := by cases k with
        | zero => rfl
        | succ k => rw [tabE, if_neg hb]
      rw [e, List.append_nil] at h1
      subst h1
      exact ex_return (ev_drop (ev_rev_cell (ev_local (by repeat first | exact GetAt.head | apply GetAt.tail)) (eo_some (ev_neg ev_int)) (by repeat first | exact List.Mem.head _ | apply List.Mem.tail) (by simp; lia))) ⟨rfl, rfl⟩
end Mine

end
section
open PySem PySem.W PyProof.Rows
namespace Mine
open PySem PySem.Calls PySem.W PyProof.Rows PySem.Builtin.Str
variable {c : Cx}
set_option maxRecDepth 100000
theorem KOk.f_line_with_text (K : KOk c) (l : List Nat) (f : Int) {p : Int} (i : Nat) (h : l.length < 100000) (hi : i ≤ l.length) (hp : p = f + i) : FnP c 3 (.ref 162) [vw l f, .int p] (.int (plc f (lwt l l.length (bwd notN l i)))) :=
  fp_of_body K.d_line_with_text rfl fun X => by
    subst hp
    have hb0 := bwd_le notN l i
    refine ex_assign (ev_bin (ev_call0 (ev_globalR (by repeat first | exact List.Mem.head _ | apply List.Mem.tail) K.g_line_start) K.d_line_start.isFn (el_cons (ev_local (by repeat first | exact GetAt.head | apply GetAt.tail)) (el_cons (ev_local (by repeat first | exact GetAt.head | apply GetAt.tail)) el_nil)) (K.f_line_start l f i (by lia) hi rfl) (by decide)) ev_int (by first | exact op_add | exact op_sub | exact op_mod (by first | assumption | lia | (simp; done) | (simp; lia)) | exact op_div (by first | assumption | lia | (simp; done) | (simp; lia)) (PyProof.noPylong_small (by lia)) | exact op_mul (mul_okR (by lia)) | exact op_mul (mul_okL (by lia)) | exact op_adds (by first | assumption | lia | (simp; done) | (simp; lia)) | exact op_addl (by first | assumption | lia | (simp; done) | (simp; lia)) | exact op_muls (by first | assumption | lia | (simp; done) | (simp; lia)) (by first | assumption | lia | (simp; done) | (simp; lia)) | exact op_mull (by first | assumption | lia | (simp; done) | (simp; lia)) (by first | assumption | lia | (simp; done) | (simp; lia)) (by first | assumption | lia | (simp; done) | (simp; lia)))) (by repeat first | exact SetAt.head | apply SetAt.tail) ?_
    refine ex_while (fun x : Nat × Nat => [some (vw l f), some (.int (f + i)), some (.int (f + x.2 - 1)), none]) (fun _ => []) (fun x => lwt l x.1 x.2 = lwt l l.length (bwd notN l i) ∧ x.2 ≤ l.length ∧ x.2 ≤ x.1) (fun x => x.1)
      (l.length, bwd notN l i) (fun x => decide (0 < x.2)) (Fsub.refl _) rfl ⟨rfl, by simp only; lia, by simp only; lia⟩ (fun x hx => ?_) (fun x hx hb => ?_) (fun x hx hb => ?_)
    · exact et_conv (et_cmp (ev_local (by repeat first | exact GetAt.head | apply GetAt.tail)) (ev_meth K.row_ok K.row_ok.begin K.d_begin.isFn (by decide) (ev_local (by repeat first | exact GetAt.head | apply GetAt.tail)) el_nil (K.f_begin _ _) (by decide)) (by first | exact cp_lt | exact cp_le | exact cp_gt | exact cp_ge | exact cp_eq | exact cp_ne | exact cp_eqs | exact cp_nes | exact cp_eqb | exact cp_in_tup | exact cp_notin_tup | exact cp_in_str | exact cp_notin_str)) (decide_eq_decide.mpr (by lia))
    · obtain ⟨k, j⟩ := x
      obtain ⟨h1, h2, h3⟩ := hx
      simp only [decide_eq_true_eq] at hb h1 h2 h3 ⊢
      cases k with
      | zero => lia
      | succ k =>
        cases j with
        | zero => lia
        | succ j =>
          have hb1 := bwd_le notN l j
          rw [lwt] at h1
          refine ex_assign (ev_call0 (ev_globalR (by repeat first | exact List.Mem.head _ | apply List.Mem.tail) K.g_line_start) K.d_line_start.isFn (el_cons (ev_local (by repeat first | exact GetAt.head | apply GetAt.tail)) (el_cons (ev_local (by repeat first | exact GetAt.head | apply GetAt.tail)) el_nil)) (K.f_line_start l f j (by lia) (by lia) (by lia)) (by decide)) (by repeat first | exact SetAt.head | apply SetAt.tail) ?_
          refine ex_if (et_cmp (ev_local (by repeat first | exact GetAt.head | apply GetAt.tail)) (ev_local (by repeat first | exact GetAt.head | apply GetAt.tail)) (by first | exact cp_lt | exact cp_le | exact cp_gt | exact cp_ge | exact cp_eq | exact cp_ne | exact cp_eqs | exact cp_nes | exact cp_eqb | exact cp_in_tup | exact cp_notin_tup | exact cp_in_str | exact cp_notin_str)) (fun hb2 => ?_) (fun hb2 => ?_)
          · simp only [decide_eq_true_eq] at hb2
            rw [if_pos (by lia)] at h1
            exact ex_return (ev_local (by repeat first | exact GetAt.head | apply GetAt.tail)) ⟨by rw [← h1]; rfl, rfl⟩
          · simp only [decide_eq_false_iff_not] at hb2
            rw [if_neg (by lia)] at h1
            exact ex_assign (ev_bin (ev_local (by repeat first | exact GetAt.head | apply GetAt.tail)) ev_int (by first | exact op_add | exact op_sub | exact op_mod (by first | assumption | lia | (simp; done) | (simp; lia)) | exact op_div (by first | assumption | lia | (simp; done) | (simp; lia)) (PyProof.noPylong_small (by lia)) | exact op_mul (mul_okR (by lia)) | exact op_mul (mul_okL (by lia)) | exact op_adds (by first | assumption | lia | (simp; done) | (simp; lia)) | exact op_addl (by first | assumption | lia | (simp; done) | (simp; lia)) | exact op_muls (by first | assumption | lia | (simp; done) | (simp; lia)) (by first | assumption | lia | (simp; done) | (simp; lia)) | exact op_mull (by first | assumption | lia | (simp; done) | (simp; lia)) (by first | assumption | lia | (simp; done) | (simp; lia)) (by first | assumption | lia | (simp; done) | (simp; lia)))) (by repeat first | exact SetAt.head | apply SetAt.tail) (ex_nil ⟨(k, bwd notN l j), ⟨h1, by simp only; lia, by simp only; lia⟩, Nat.lt_succ_self _, .keep (.keep (.keep (.drop .nil))), rfl⟩)
    · obtain ⟨k, j⟩ := x
      obtain ⟨h1, h2, h3⟩ := hx
      simp only [decide_eq_false_iff_not] at hb h1
      have : j = 0 := by lia
      subst this
      refine ex_return (ev_neg ev_int) ⟨?_, rfl⟩
      rw [← h1]
      cases k <;> rfl
theorem KOk.f_skip_while (K : KOk c) (l : List Nat) (f : Int) {p q : Int} (i e : Nat) (b : Bool) (h : l.length < 100000) (hi : i ≤ e) (he : e ≤ l.length) (hp : p = f + i) (hq : q = f + e) : FnP c 2 (.ref 169) [vw l f, .int p, .int q, .bool b] (.int (f + (fwd (eqB b) (l.take e) i : Nat))) :=
  fp_of_body K.d_skip_while rfl fun X => by
    subst hp; subst hq
    have hcod : ∀ j, j < e → cod (l.take e) j = cod l j := fun j hj => by unfold cod; rw [List.getElem?_take, if_pos hj]
    have hlen : (l.take e).length = e := by rw [List.length_take]; lia
    refine ex_while (fun j : Nat => [some (vw l f), some (.int (f + j)), some (.int (f + e)), some (.bool b)]) (fun _ => []) (fun j => j ≤ e ∧ fwd (eqB b) (l.take e) j = fwd (eqB b) (l.take e) i) (fun j => e - j) i (fun j => decide (j < e) && eqB b (cod l j)) (Fsub.refl _) rfl ⟨hi, rfl⟩ (fun j hj => ?_) (fun j hj hb => ?_) (fun j hj hb => ?_)
    · refine et_conv (et_and (et_cmp (ev_local (by repeat first | exact GetAt.head | apply GetAt.tail)) (ev_local (by repeat first | exact GetAt.head | apply GetAt.tail)) (by first | exact cp_lt | exact cp_le | exact cp_gt | exact cp_ge | exact cp_eq | exact cp_ne | exact cp_eqs | exact cp_nes | exact cp_eqb | exact cp_in_tup | exact cp_notin_tup | exact cp_in_str | exact cp_notin_str)) (fun hb => (et_cmp (ev_cmp (ev_meth K.row_ok K.row_ok.code K.d_code_at.isFn (by decide) (ev_local (by repeat first | exact GetAt.head | apply GetAt.tail)) (el_cons (ev_local (by repeat first | exact GetAt.head | apply GetAt.tail)) el_nil) (K.f_code_at _ _ j (by first | assumption | lia | (simp; done) | (simp; lia)) (by first | rfl | lia | (push_cast; lia) | (simp only [decide_eq_true_eq, decide_eq_false_iff_not, Bool.and_eq_true] at *; lia))) (by decide)) (ev_global (by repeat first | exact List.Mem.head _ | apply List.Mem.tail) K.g_BLANKS K.is_BLANKS) (by first | exact cp_lt | exact cp_le | exact cp_gt | exact cp_ge | exact cp_eq | exact cp_ne | exact cp_eqs | exact cp_nes | exact cp_eqb | exact cp_in_tup | exact cp_notin_tup | exact cp_in_str | exact cp_notin_str)) (ev_local (by repeat first | exact GetAt.head | apply GetAt.tail)) (by first | exact cp_lt | exact cp_le | exact cp_gt | exact cp_ge | exact cp_eq | exact cp_ne | exact cp_eqs | exact cp_nes | exact cp_eqb | exact cp_in_tup | exact cp_notin_tup | exact cp_in_str | exact cp_notin_str)))) ?_
      congr 1
      exact decide_eq_decide.mpr (by lia)
    · simp only [Bool.and_eq_true, decide_eq_true_eq] at hb
      exact ex_assign (ev_bin (ev_local (by repeat first | exact GetAt.head | apply GetAt.tail)) ev_int (by first | exact op_add | exact op_sub | exact op_mod (by first | assumption | lia | (simp; done) | (simp; lia)) | exact op_div (by first | assumption | lia | (simp; done) | (simp; lia)) (PyProof.noPylong_small (by lia)) | exact op_mul (mul_okR (by lia)) | exact op_mul (mul_okL (by lia)) | exact op_adds (by first | assumption | lia | (simp; done) | (simp; lia)) | exact op_addl (by first | assumption | lia | (simp; done) | (simp; lia)) | exact op_muls (by first | assumption | lia | (simp; done) | (simp; lia)) (by first | assumption | lia | (simp; done) | (simp; lia)) | exact op_mull (by first | assumption | lia | (simp; done) | (simp; lia)) (by first | assumption | lia | (simp; done) | (simp; lia)) (by first | assumption | lia | (simp; done) | (simp; lia)))) (by repeat first | exact SetAt.head | apply SetAt.tail) (ex_nil ⟨j + 1, ⟨by lia, (fwd_step (eqB b) (i := j) (by lia) (by rw [hcod j hb.1]; exact hb.2)).symm.trans hj.2⟩, by lia, .keep (.eq (by push_cast; rw [Int.add_assoc]) (.keep (.keep .nil))), rfl⟩)
    · refine ex_return (ev_local (by repeat first | exact GetAt.head | apply GetAt.tail)) ⟨?_, rfl⟩
      rw [← hj.2, fwd_stop]
      intro hl
      rw [hlen] at hl
      rw [hcod j hl]
      simpa [hl] using hb
theorem KOk.f_stop_behind (K : KOk c) (col w' : Int) (hw : 0 < w' ∧ w' ≤ 1000) : FnP c 1 (.ref 183) [.int col, .int w'] (.int ((col / w' + 1) * w')) :=
  fp_of_body K.d_stop_behind rfl fun X => by
    have hw0 := hw.1
    exact ex_return (ev_bin (ev_bin (ev_bin (ev_local (by repeat first | exact GetAt.head | apply GetAt.tail)) (ev_local (by repeat first | exact GetAt.head | apply GetAt.tail)) (by first | exact op_add | exact op_sub | exact op_mod (by first | assumption | lia | (simp; done) | (simp; lia)) | exact op_div (by first | assumption | lia | (simp; done) | (simp; lia)) (PyProof.noPylong_small (by lia)) | exact op_mul (mul_okR (by lia)) | exact op_mul (mul_okL (by lia)) | exact op_adds (by first | assumption | lia | (simp; done) | (simp; lia)) | exact op_addl (by first | assumption | lia | (simp; done) | (simp; lia)) | exact op_muls (by first | assumption | lia | (simp; done) | (simp; lia)) (by first | assumption | lia | (simp; done) | (simp; lia)) | exact op_mull (by first | assumption | lia | (simp; done) | (simp; lia)) (by first | assumption | lia | (simp; done) | (simp; lia)) (by first | assumption | lia | (simp; done) | (simp; lia)))) ev_int (by first | exact op_add | exact op_sub | exact op_mod (by first | assumption | lia | (simp; done) | (simp; lia)) | exact op_div (by first | assumption | lia | (simp; done) | (simp; lia)) (PyProof.noPylong_small (by lia)) | exact op_mul (mul_okR (by lia)) | exact op_mul (mul_okL (by lia)) | exact op_adds (by first | assumption | lia | (simp; done) | (simp; lia)) | exact op_addl (by first | assumption | lia | (simp; done) | (simp; lia)) | exact op_muls (by first | assumption | lia | (simp; done) | (simp; lia)) (by first | assumption | lia | (simp; done) | (simp; lia)) | exact op_mull (by first | assumption | lia | (simp; done) | (simp; lia)) (by first | assumption | lia | (simp; done) | (simp; lia)) (by first | assumption | lia | (simp; done) | (simp; lia)))) (ev_local (by repeat first | exact GetAt.head | apply GetAt.tail)) (by first | exact op_add | exact op_sub | exact op_mod (by first | assumption | lia | (simp; done) | (simp; lia)) | exact op_div (by first | assumption | lia | (simp; done) | (simp; lia)) (PyProof.noPylong_small (by lia)) | exact op_mul (mul_okR (by lia)) | exact op_mul (mul_okL (by lia)) | exact op_adds (by first | assumption | lia | (simp; done) | (simp; lia)) | exact op_addl (by first | assumption | lia | (simp; done) | (simp; lia)) | exact op_muls (by first | assumption | lia | (simp; done) | (simp; lia)) (by first | assumption | lia | (simp; done) | (simp; lia)) | exact op_mull (by first | assumption | lia | (simp; done) | (simp; lia)) (by first | assumption | lia | (simp; done) | (simp; lia)) (by first | assumption | lia | (simp; done) | (simp; lia)))) ⟨rfl, rfl⟩
theorem KOk.f_stop_edit (K : KOk c) (l : List Nat) (f : Int) {p w' : Int} (i : Nat) (tabs : Bool) (hw : 0 < w' ∧ w' ≤ 300) (h : l.length < 1000) (hf : 0 ≤ f ∧ f < 100000) (hi : i ≤ l.length) (hp : p = f + i) : FnP c 4 (.ref 190) [vw l f, .int p, .int w', .bool tabs] (edt f (stopE w' tabs l i)) :=
  fp_of_body K.d_stop_edit rfl fun X => by
    subst hp
    have hb := bwd_le isB l i
    have hcb : ∀ i, 0 ≤ colAt w' l i ∧ colAt w' l i ≤ 304000 := fun i => by
      have h1 := colAt_bd hw.1 l i
      have h2 : (l.length : Int) * (w' + 4) ≤ 1000 * (w' + 4) := Int.mul_le_mul_of_nonneg_right (by lia) (by lia)
      lia
    have hs : 0 ≤ (colAt w' l i / w' + 1) * w' ∧ (colAt w' l i / w' + 1) * w' ≤ 400000 := by
      have h1 := hcb i
      have h2 := Int.emod_add_mul_ediv (colAt w' l i) w'
      have h3 := mod_bd (a := colAt w' l i) hw.1
      rw [Int.add_mul, Int.one_mul, Int.mul_comm]
      generalize w' * (colAt w' l i / w') = z at *
      lia
    have hc1 := hcb (bwd isB l i)
    refine ex_assign (ev_call0 (ev_globalR (by repeat first | exact List.Mem.head _ | apply List.Mem.tail) K.g_blanks_begin) K.d_blanks_begin.isFn (el_cons (ev_local (by repeat first | exact GetAt.head | apply GetAt.tail)) (el_cons (ev_local (by repeat first | exact GetAt.head | apply GetAt.tail)) el_nil)) (K.f_blanks_begin l f i (by lia) hi rfl) (by decide)) (by repeat first | exact SetAt.head | apply SetAt.tail) ?_
    refine ex_assign (ev_call0 (ev_globalR (by repeat first | exact List.Mem.head _ | apply List.Mem.tail) K.g_column_at) K.d_column_at.isFn (el_cons (ev_local (by repeat first | exact GetAt.head | apply GetAt.tail)) (el_cons (ev_local (by repeat first | exact GetAt.head | apply GetAt.tail)) (el_cons (ev_local (by repeat first | exact GetAt.head | apply GetAt.tail)) el_nil))) (K.f_column_at l f i hw.1 (by lia) (by lia) hi rfl) (by decide)) (by repeat first | exact SetAt.head | apply SetAt.tail) ?_
    exact ex_return (ev_tuple (el_cons (ev_local (by repeat first | exact GetAt.head | apply GetAt.tail)) (el_cons (ev_local (by repeat first | exact GetAt.head | apply GetAt.tail)) (el_cons (ev_call0 (ev_globalR (by repeat first | exact List.Mem.head _ | apply List.Mem.tail) K.g_blanks_to) K.d_blanks_to.isFn (el_cons (ev_call0 (ev_globalR (by repeat first | exact List.Mem.head _ | apply List.Mem.tail) K.g_column_at) K.d_column_at.isFn (el_cons (ev_local (by repeat first | exact GetAt.head | apply GetAt.tail)) (el_cons (ev_local (by repeat first | exact GetAt.head | apply GetAt.tail)) (el_cons (ev_local (by repeat first | exact GetAt.head | apply GetAt.tail)) el_nil))) (K.f_column_at l f (bwd isB l i) hw.1 (by lia) (by lia) (by lia) rfl) (by decide)) (el_cons (ev_call0 (ev_globalR (by repeat first | exact List.Mem.head _ | apply List.Mem.tail) K.g_stop_behind) K.d_stop_behind.isFn (el_cons (ev_local (by repeat first | exact GetAt.head | apply GetAt.tail)) (el_cons (ev_local (by repeat first | exact GetAt.head | apply GetAt.tail)) el_nil)) (K.f_stop_behind _ _ ⟨hw.1, by lia⟩) (by decide)) (el_cons (ev_local (by repeat first | exact GetAt.head | apply GetAt.tail)) (el_cons (ev_local (by repeat first | exact GetAt.head | apply GetAt.tail)) el_nil)))) (K.f_blanks_to _ _ _ _ ⟨hw.1, by lia⟩ (by lia) (by lia)) (by decide)) el_nil))) (by simp)) ⟨rfl, rfl⟩
theorem KOk.f_split_edit (K : KOk c) (l : List Nat) (f : Int) {p w' : Int} (i : Nat) (tabs : Bool) (hw : 0 < w' ∧ w' ≤ 300) (h : l.length < 1000) (hf : 0 ≤ f ∧ f < 100000) (hi : i ≤ l.length) (hp : p = f + i) (hbt : ∀ c, 0 ≤ c → c ≤ 304000 → (bt 0 c w' tabs).length ≤ 400000) : FnP c 4 (.ref 197) [vw l f, .int p, .int w', .bool tabs] (.tup [edt f (splitE w' tabs l i), .int (f + (fwd isB l i : Nat))]) :=
  fp_of_body K.d_split_edit rfl fun X => by
    subst hp
    have hb := fwd_le isB l hi
    have hcb : ∀ i, 0 ≤ colAt w' l i ∧ colAt w' l i ≤ 304000 := fun i => by
      have h1 := colAt_bd hw.1 l i
      have h2 : (l.length : Int) * (w' + 4) ≤ 1000 * (w' + 4) := Int.mul_le_mul_of_nonneg_right (by lia) (by lia)
      lia
    have hc1 := hcb (fwd isB l i)
    have hbt' := hbt _ hc1.1 hc1.2
    refine ex_assign (ev_call0 (ev_globalR (by repeat first | exact List.Mem.head _ | apply List.Mem.tail) K.g_blanks_end) K.d_blanks_end.isFn (el_cons (ev_local (by repeat first | exact GetAt.head | apply GetAt.tail)) (el_cons (ev_local (by repeat first | exact GetAt.head | apply GetAt.tail)) el_nil)) (K.f_blanks_end l f i (by lia) hi rfl) (by decide)) (by repeat first | exact SetAt.head | apply SetAt.tail) ?_
    refine ex_assign (ev_call0 (ev_globalR (by repeat first | exact List.Mem.head _ | apply List.Mem.tail) K.g_column_at) K.d_column_at.isFn (el_cons (ev_local (by repeat first | exact GetAt.head | apply GetAt.tail)) (el_cons (ev_local (by repeat first | exact GetAt.head | apply GetAt.tail)) (el_cons (ev_local (by repeat first | exact GetAt.head | apply GetAt.tail)) el_nil))) (K.f_column_at l f (fwd isB l i) hw.1 (by lia) (by lia) (by lia) rfl) (by decide)) (by repeat first | exact SetAt.head | apply SetAt.tail) ?_
    exact ex_return (ev_tuple (el_cons (ev_tuple (el_cons (ev_local (by repeat first | exact GetAt.head | apply GetAt.tail)) (el_cons (ev_local (by repeat first | exact GetAt.head | apply GetAt.tail)) (el_cons (ev_bin (ev_list (el_cons ev_int el_nil) (by simp)) (ev_call0 (ev_globalR (by repeat first | exact List.Mem.head _ | apply List.Mem.tail) K.g_blanks_to) K.d_blanks_to.isFn (el_cons ev_int (el_cons (ev_local (by repeat first | exact GetAt.head | apply GetAt.tail)) (el_cons (ev_local (by repeat first | exact GetAt.head | apply GetAt.tail)) (el_cons (ev_local (by repeat first | exact GetAt.head | apply GetAt.tail)) el_nil)))) (K.f_blanks_to _ _ _ _ ⟨hw.1, by lia⟩ (by lia) (by lia)) (by decide)) (by first | exact op_add | exact op_sub | exact op_mod (by first | assumption | lia | (simp; done) | (simp; lia)) | exact op_div (by first | assumption | lia | (simp; done) | (simp; lia)) (PyProof.noPylong_small (by lia)) | exact op_mul (mul_okR (by lia)) | exact op_mul (mul_okL (by lia)) | exact op_adds (by first | assumption | lia | (simp; done) | (simp; lia)) | exact op_addl (by first | assumption | lia | (simp; done) | (simp; lia)) | exact op_muls (by first | assumption | lia | (simp; done) | (simp; lia)) (by first | assumption | lia | (simp; done) | (simp; lia)) | exact op_mull (by first | assumption | lia | (simp; done) | (simp; lia)) (by first | assumption | lia | (simp; done) | (simp; lia)) (by first | assumption | lia | (simp; done) | (simp; lia)))) el_nil))) (by simp)) (el_cons (ev_local (by repeat first | exact GetAt.head | apply GetAt.tail)) el_nil)) (by simp)) ⟨rfl, rfl⟩
end Mine

end
section
open PySem PySem.W PyProof.Rows
namespace Mine
open PySem PySem.Calls PySem.W PyProof.Rows PySem.Builtin.Str
variable {c : Cx}
set_option maxRecDepth 100000
theorem KOk.f_relative_column (K : KOk c) (l : List Nat) (f : Int) {p w' : Int} (i : Nat) (hw : 0 < w' ∧ w' ≤ 300) (h : l.length < 1000) (hf : 0 ≤ f ∧ f < 100000) (hi : i ≤ l.length) (hp : p = f + i) : FnP c 4 (.ref 176) [vw l f, .int p, .int w', .bool false] (.int (relV w' l i)) :=
  fp_of_body K.d_relative_column rfl fun X => by
    subst hp
    have hb0 := bwd_le notN l i
    refine ex_assign (ev_call0 (ev_globalR (by repeat first | exact List.Mem.head _ | apply List.Mem.tail) K.g_line_with_text) K.d_line_with_text.isFn (el_cons (ev_local (by repeat first | exact GetAt.head | apply GetAt.tail)) (el_cons (ev_local (by repeat first | exact GetAt.head | apply GetAt.tail)) el_nil)) (K.f_line_with_text l f i (by lia) hi rfl) (by decide)) (by repeat first | exact SetAt.head | apply SetAt.tail) ?_
    unfold relV
    generalize hlw : lwt l l.length (bwd notN l i) = o
    cases o with
    | none => exact ex_if (et_cmp (ev_local (by repeat first | exact GetAt.head | apply GetAt.tail)) ev_int (by first | exact cp_lt | exact cp_le | exact cp_gt | exact cp_ge | exact cp_eq | exact cp_ne | exact cp_eqs | exact cp_nes | exact cp_eqb | exact cp_in_tup | exact cp_notin_tup | exact cp_in_str | exact cp_notin_str)) (fun hb => ex_return (ev_neg ev_int) ⟨rfl, rfl⟩) (fun hb => by simp [plc] at hb)
    | some a =>
      have ha : a ≤ l.length := Nat.le_trans (lwt_le hlw) (Nat.le_trans hb0 hi)
      have hfl := fwd_le notN l ha
      have hfg := fwd_ge notN l a
      have hba := bwd_le notN l a
      refine ex_if (et_cmp (ev_local (by repeat first | exact GetAt.head | apply GetAt.tail)) ev_int (by first | exact cp_lt | exact cp_le | exact cp_gt | exact cp_ge | exact cp_eq | exact cp_ne | exact cp_eqs | exact cp_nes | exact cp_eqb | exact cp_in_tup | exact cp_notin_tup | exact cp_in_str | exact cp_notin_str)) (fun hb => by have h9 : f + (a : Int) < 0 := of_decide_eq_true hb; lia) (fun hb => ?_)
      refine ex_assign (ev_call0 (ev_globalR (by repeat first | exact List.Mem.head _ | apply List.Mem.tail) K.g_column_at) K.d_column_at.isFn (el_cons (ev_local (by repeat first | exact GetAt.head | apply GetAt.tail)) (el_cons (ev_local (by repeat first | exact GetAt.head | apply GetAt.tail)) (el_cons (ev_local (by repeat first | exact GetAt.head | apply GetAt.tail)) el_nil))) (K.f_column_at l f i hw.1 (by lia) (by lia) hi rfl) (by decide)) (by repeat first | exact SetAt.head | apply SetAt.tail) ?_
      refine ex_unpack (ev_call0 (ev_globalR (by repeat first | exact List.Mem.head _ | apply List.Mem.tail) K.g_place_at) K.d_place_at.isFn (el_cons (ev_local (by repeat first | exact GetAt.head | apply GetAt.tail)) (el_cons (ev_local (by repeat first | exact GetAt.head | apply GetAt.tail)) (el_cons (ev_local (by repeat first | exact GetAt.head | apply GetAt.tail)) (el_cons (ev_local (by repeat first | exact GetAt.head | apply GetAt.tail)) el_nil)))) (K.f_place_at l f a hw.1 (by lia) ha rfl) (by decide)) (.cons (.loc (by repeat first | exact SetAt.head | apply SetAt.tail)) (.cons (.loc (by repeat first | exact SetAt.head | apply SetAt.tail)) .nil)) ?_
      refine ex_assign (ev_call0 (ev_globalR (by repeat first | exact List.Mem.head _ | apply List.Mem.tail) K.g_line_end) K.d_line_end.isFn (el_cons (ev_local (by repeat first | exact GetAt.head | apply GetAt.tail)) (el_cons (ev_local (by repeat first | exact GetAt.head | apply GetAt.tail)) el_nil)) (K.f_line_end l f a (by lia) ha rfl) (by decide)) (by repeat first | exact SetAt.head | apply SetAt.tail) ?_
      have hpl := pla_le w' (colAt w' l i) ((l.take (fwd notN l a)).drop (bwd notN l a)) 0
      have hp0 := pla_zero w' (colAt w' l i) ((l.take (fwd notN l a)).drop (bwd notN l a)) 0
      have hc0 := (colAt_bd hw.1 l i).1
      have hsl : ((l.take (fwd notN l a)).drop (bwd notN l a)).length = fwd notN l a - bwd notN l a := by rw [List.length_drop, List.length_take]; lia
      rw [hsl] at hpl
      refine ex_if (et_cmp (ev_local (by repeat first | exact GetAt.head | apply GetAt.tail)) (ev_local (by repeat first | exact GetAt.head | apply GetAt.tail)) (by first | exact cp_lt | exact cp_le | exact cp_gt | exact cp_ge | exact cp_eq | exact cp_ne | exact cp_eqs | exact cp_nes | exact cp_eqb | exact cp_in_tup | exact cp_notin_tup | exact cp_in_str | exact cp_notin_str)) (fun hb1 => ?_) (fun hb1 => ?_)
      · simp only [decide_eq_true_eq] at hb1
        exact ex_return (ev_neg ev_int) ⟨by simp only; rw [if_pos (show (relAt w' l i a).2 < colAt w' l i from hb1)], rfl⟩
      simp only [decide_eq_false_iff_not] at hb1
      have hst : relSt w' l i a ≤ fwd notN l a := by unfold relSt relAt; split <;> lia
      refine ex_ifj (fun vs cs => Fsub vs [some (vw l f), some (.int (f + i)), some (.int w'), some (.bool false), some (.int (plc f (some a))), some (.int (colAt w' l i)), some (.int (f + (relSt w' l i a : Nat))), some (.int (relAt w' l i a).2), some (.int (f + (fwd notN l a : Nat)))] ∧ cs = []) (et_cmp (ev_local (by repeat first | exact GetAt.head | apply GetAt.tail)) (ev_local (by repeat first | exact GetAt.head | apply GetAt.tail)) (by first | exact cp_lt | exact cp_le | exact cp_gt | exact cp_ge | exact cp_eq | exact cp_ne | exact cp_eqs | exact cp_nes | exact cp_eqb | exact cp_in_tup | exact cp_notin_tup | exact cp_in_str | exact cp_notin_str)) (fun hb2 => ?_) (fun hb2 => ?_) (fun vs cs hN => ?_)
      · simp only [decide_eq_true_eq] at hb2
        have h1 : 0 < (relAt w' l i a).1 := by
          apply Nat.pos_of_ne_zero; intro h0
          have h5 : (relAt w' l i a).2 = 0 := hp0 h0
          have h6 : (relAt w' l i a).2 > colAt w' l i := hb2
          lia
        refine ex_assign (ev_bin (ev_local (by repeat first | exact GetAt.head | apply GetAt.tail)) ev_int (by first | exact op_add | exact op_sub | exact op_mod (by first | assumption | lia | (simp; done) | (simp; lia)) | exact op_div (by first | assumption | lia | (simp; done) | (simp; lia)) (PyProof.noPylong_small (by lia)) | exact op_mul (mul_okR (by lia)) | exact op_mul (mul_okL (by lia)) | exact op_adds (by first | assumption | lia | (simp; done) | (simp; lia)) | exact op_addl (by first | assumption | lia | (simp; done) | (simp; lia)) | exact op_muls (by first | assumption | lia | (simp; done) | (simp; lia)) (by first | assumption | lia | (simp; done) | (simp; lia)) | exact op_mull (by first | assumption | lia | (simp; done) | (simp; lia)) (by first | assumption | lia | (simp; done) | (simp; lia)) (by first | assumption | lia | (simp; done) | (simp; lia)))) (by repeat first | exact SetAt.head | apply SetAt.tail) (ex_nil ⟨.keep (.keep (.keep (.keep (.keep (.keep (.eq (by rw [relSt, if_pos (show (relAt w' l i a).2 > colAt w' l i from hb2)]; unfold relAt at h1 ⊢; congr 1; lia) (.keep (.keep .nil)))))))), rfl⟩)
      · simp only [decide_eq_false_iff_not] at hb2
        refine ex_nil ⟨.keep (.keep (.keep (.keep (.keep (.keep (.eq (by rw [relSt, if_neg (show ¬ (relAt w' l i a).2 > colAt w' l i from hb2)]; unfold relAt; congr 1) (.keep (.keep .nil)))))))), rfl⟩
      obtain ⟨hN, rfl⟩ := hN
      refine ex_fsub hN ?_
      have hskl : relSk w' l i a ≤ fwd notN l a := by
        unfold relSk
        split
        · exact hst
        · have := fwd_le (eqB false) (l.take (fwd notN l a)) (i := relSt w' l i a) (by rw [List.length_take]; lia)
          rw [List.length_take] at this; lia
      have hedl : relEd w' l i a ≤ fwd notN l a := by
        have := fwd_le (eqB true) (l.take (fwd notN l a)) (i := relSk w' l i a) (by rw [List.length_take]; lia)
        rw [List.length_take] at this
        show fwd _ _ _ ≤ _
        lia
      refine ex_ifj (fun vs cs => Fsub vs [some (vw l f), some (.int (f + i)), some (.int w'), some (.bool false), some (.int (plc f (some a))), some (.int (colAt w' l i)), some (.int (f + (relSk w' l i a : Nat))), some (.int (relAt w' l i a).2), some (.int (f + (fwd notN l a : Nat)))] ∧ cs = []) (et_and (et_cmp (ev_meth K.row_ok K.row_ok.code K.d_code_at.isFn (by decide) (ev_local (by repeat first | exact GetAt.head | apply GetAt.tail)) (el_cons (ev_local (by repeat first | exact GetAt.head | apply GetAt.tail)) el_nil) (K.f_code_at _ _ (relSt w' l i a) (by first | assumption | lia | (simp; done) | (simp; lia)) (by first | rfl | lia | (push_cast; lia) | (simp only [decide_eq_true_eq, decide_eq_false_iff_not, Bool.and_eq_true] at *; lia))) (by decide)) (ev_global (by repeat first | exact List.Mem.head _ | apply List.Mem.tail) K.g_BLANKS K.is_BLANKS) (by first | exact cp_lt | exact cp_le | exact cp_gt | exact cp_ge | exact cp_eq | exact cp_ne | exact cp_eqs | exact cp_nes | exact cp_eqb | exact cp_in_tup | exact cp_notin_tup | exact cp_in_str | exact cp_notin_str)) (fun hb => (et_not (et_value (ev_local (by repeat first | exact GetAt.head | apply GetAt.tail)))))) (fun hb3 => ?_) (fun hb3 => ?_) (fun vs cs hN => ?_)
      · have hb3' : isB (cod l (relSt w' l i a)) = false := by have h9 : (!isB (cod l (relSt w' l i a)) && !false) = true := hb3; simpa using h9
        refine ex_assign (ev_call0 (ev_globalR (by repeat first | exact List.Mem.head _ | apply List.Mem.tail) K.g_skip_while) K.d_skip_while.isFn (el_cons (ev_local (by repeat first | exact GetAt.head | apply GetAt.tail)) (el_cons (ev_local (by repeat first | exact GetAt.head | apply GetAt.tail)) (el_cons (ev_local (by repeat first | exact GetAt.head | apply GetAt.tail)) (el_cons ev_bool el_nil)))) (K.f_skip_while l f (relSt w' l i a) (fwd notN l a) false (by lia) hst hfl rfl rfl) (by decide)) (by repeat first | exact SetAt.head | apply SetAt.tail) (ex_nil ⟨.keep (.keep (.keep (.keep (.keep (.keep (.eq (by rw [relSk, if_neg (by rw [hb3']; decide)]) (.keep (.keep .nil)))))))), rfl⟩)
      · have hb3' : isB (cod l (relSt w' l i a)) = true := by have h9 : (!isB (cod l (relSt w' l i a)) && !false) = false := hb3; simpa using h9
        refine ex_nil ⟨.keep (.keep (.keep (.keep (.keep (.keep (.eq (by rw [relSk, if_pos hb3']) (.keep (.keep .nil)))))))), rfl⟩
      obtain ⟨hN, rfl⟩ := hN
      refine ex_fsub hN ?_
      refine ex_assign (ev_call0 (ev_globalR (by repeat first | exact List.Mem.head _ | apply List.Mem.tail) K.g_skip_while) K.d_skip_while.isFn (el_cons (ev_local (by repeat first | exact GetAt.head | apply GetAt.tail)) (el_cons (ev_local (by repeat first | exact GetAt.head | apply GetAt.tail)) (el_cons (ev_local (by repeat first | exact GetAt.head | apply GetAt.tail)) (el_cons ev_bool el_nil)))) (K.f_skip_while l f (relSk w' l i a) (fwd notN l a) true (by lia) hskl hfl rfl rfl) (by decide)) (by repeat first | exact SetAt.head | apply SetAt.tail) ?_
      refine ex_return (ev_if (p := .int (if (relAt w' l i a).2 < colAt w' l i then -1 else if relEd w' l i a = fwd notN l a then -1 else colAt w' l (relEd w' l i a))) (et_cmp (ev_local (by repeat first | exact GetAt.head | apply GetAt.tail)) (ev_local (by repeat first | exact GetAt.head | apply GetAt.tail)) (by first | exact cp_lt | exact cp_le | exact cp_gt | exact cp_ge | exact cp_eq | exact cp_ne | exact cp_eqs | exact cp_nes | exact cp_eqb | exact cp_in_tup | exact cp_notin_tup | exact cp_in_str | exact cp_notin_str)) (fun hT => ev_conv (ev_neg ev_int) ?_) (fun hF => ev_conv (ev_call0 (ev_globalR (by repeat first | exact List.Mem.head _ | apply List.Mem.tail) K.g_column_at) K.d_column_at.isFn (el_cons (ev_local (by repeat first | exact GetAt.head | apply GetAt.tail)) (el_cons (ev_local (by repeat first | exact GetAt.head | apply GetAt.tail)) (el_cons (ev_local (by repeat first | exact GetAt.head | apply GetAt.tail)) el_nil))) (K.f_column_at l f (relEd w' l i a) hw.1 (by lia) (by lia) (by lia) rfl) (by decide)) ?_)) ⟨rfl, rfl⟩
      · simp only [decide_eq_true_eq] at hT
        rw [if_neg (show ¬ (relAt w' l i a).2 < colAt w' l i from hb1), if_pos (show relEd w' l i a = _ by have : (f + ((relEd w' l i a : Nat) : Int)) = f + (fwd notN l a : Nat) := hT; lia)]
      · simp only [decide_eq_false_iff_not] at hF
        rw [if_neg (show ¬ (relAt w' l i a).2 < colAt w' l i from hb1), if_neg (fun e => hF (by show (f + ((relEd w' l i a : Nat) : Int)) = f + (fwd notN l a : Nat); rw [e]))]
end Mine

end
section
open PySem PySem.W PyProof.Rows
namespace Mine
open PySem PySem.Calls PySem.W PyProof.Rows PySem.Builtin.Str
variable {c : Cx}
set_option maxRecDepth 100000
abbrev iL (ns : List Int) : CV := .lst (ns.map PV.int)
theorem strip0_cons0 {x y : Int} {r : List Int} (h : x = 0) : strip0 (x :: y :: r) = strip0 (y :: r) := by rw [strip0, if_pos h]
theorem strip0_stop {ns : List Int} (h : ¬ (1 < ns.length ∧ ns[0]? = some 0)) : strip0 ns = ns := by
  match ns with
  | [] => rfl
  | [x] => rfl
  | x :: y :: r => rw [strip0, if_neg (fun e => h ⟨by simp, by rw [e]; rfl⟩)]
noncomputable def hd0 (ns : List Int) : Int := match ns with | [] => 0 | x :: _ => x
theorem hd0_get {ns : List Int} (h : ns ≠ []) : ((ns.map PV.int)[(0 : Int).toNat]? : Option PV) = some (.int (hd0 ns)) := by
  cases ns with
  | nil => exact absurd rfl h
  | cons x r => rfl
theorem KOk.f_draw (K : KOk c) (a : Addr) (ns : List Int) {m : Int} (h : DeckOk ns) (hm : 0 < m ∧ m < 1000) : FnM c 1 (.ref 247) [.raw (.ref a), .int m] [(a, iL ns)] (.int (draw ns m).1) [(a, iL (draw ns m).2)] :=
  fn_of_body K.d_law_draw rfl fun X hW => by
    refine ex_while (fun _ : List Int => [some (.raw (.ref a)), some (.int m), none]) (fun ns' => [(a, iL ns')]) (fun ns' => DeckOk ns' ∧ strip0 ns' = strip0 ns) List.length ns (fun ns' => decide (1 < ns'.length) && decide (hd0 ns' = 0)) (Fsub.refl _) rfl ⟨h, rfl⟩ (fun ns' hn => ?_) (fun ns' hn hb => ?_) (fun ns' hn hb => ?_)
    · have hl := hn.1.len
      refine et_conv (et_and (et_cmp (ev_len_cell (ev_builtin (by repeat first | exact List.Mem.head _ | apply List.Mem.tail) K.g_len rfl (by decide)) (ev_local (by repeat first | exact GetAt.head | apply GetAt.tail)) (.head _) (by simp; lia)) ev_int cp_gt) (fun hb => et_cmp (ev_item_cell (ev_local (by repeat first | exact GetAt.head | apply GetAt.tail)) ev_int (.head _) (by lia) (by lia) (hd0_get hn.1.ne)) ev_int cp_eq)) ?_
      rw [List.length_map]; congr 1; exact decide_eq_decide.mpr (by lia)
    · simp only [Bool.and_eq_true, decide_eq_true_eq] at hb
      obtain ⟨hok, hst⟩ := hn
      match ns', hok, hst, hb with
      | x :: y :: r, hok, hst, hb =>
        have hl := hok.len
        refine ex_expr_int (ev_pop0 (p := .int x) (l := ((y :: r).map PV.int)) (ev_local (by repeat first | exact GetAt.head | apply GetAt.tail)) (.head _) ev_int .head (by simp at hl ⊢; lia)) (ex_nil ⟨y :: r, ⟨hok.tail, ?_⟩, by simp, Fsub.refl _, rfl⟩)
        rw [← hst, strip0_cons0 (show x = 0 from hb.2)]
    · have hs : strip0 ns' = ns' := strip0_stop fun hh => by
        match ns', hh, hb with
        | x :: y :: r, hh, hb =>
          have hx : x = 0 := by have := hh.2; simpa using this
          have : (decide (1 < (x :: y :: r).length) && decide (hd0 (x :: y :: r) = 0)) = true := by simp [hd0, hx]
          rw [this] at hb; cases hb
      have hsn : strip0 ns = ns' := by rw [← hn.2, hs]
      obtain ⟨hok, _⟩ := hn
      have hl := hok.len
      have hdr : draw ns m = draw ns m := rfl
      unfold draw
      rw [hsn]
      match ns', hok with
      | [x], hok =>
        have hx := hok.bd x (.head _)
        refine ex_if (et_cmp (ev_len_cell (ev_builtin (by repeat first | exact List.Mem.head _ | apply List.Mem.tail) K.g_len rfl (by decide)) (ev_local (by repeat first | exact GetAt.head | apply GetAt.tail)) (.head _) (by simp)) ev_int cp_gt) (fun hb => by simp at hb) (fun hb => ?_)
        refine ex_set_item (ns := [x]) (ev_bin (ev_bin (ev_bin (ev_item_cell (ev_local (by repeat first | exact GetAt.head | apply GetAt.tail)) ev_int (.head _) (by lia) (by lia) (hd0_get (ns := [x]) (by simp))) ev_int (by first | exact op_add | exact op_sub | exact op_mod (by first | assumption | lia | (simp; done) | (simp; lia)) | exact op_div (by first | assumption | lia | (simp; done) | (simp; lia)) (PyProof.noPylong_small (by lia)) | exact op_mul (mul_okR (by lia)) | exact op_mul (mul_okL (by lia)) | exact op_adds (by first | assumption | lia | (simp; done) | (simp; lia)) | exact op_addl (by first | assumption | lia | (simp; done) | (simp; lia)) | exact op_muls (by first | assumption | lia | (simp; done) | (simp; lia)) (by first | assumption | lia | (simp; done) | (simp; lia)) | exact op_mull (by first | assumption | lia | (simp; done) | (simp; lia)) (by first | assumption | lia | (simp; done) | (simp; lia)) (by first | assumption | lia | (simp; done) | (simp; lia)))) ev_int (by first | exact op_add | exact op_sub | exact op_mod (by first | assumption | lia | (simp; done) | (simp; lia)) | exact op_div (by first | assumption | lia | (simp; done) | (simp; lia)) (PyProof.noPylong_small (by lia)) | exact op_mul (mul_okR (by lia)) | exact op_mul (mul_okL (by lia)) | exact op_adds (by first | assumption | lia | (simp; done) | (simp; lia)) | exact op_addl (by first | assumption | lia | (simp; done) | (simp; lia)) | exact op_muls (by first | assumption | lia | (simp; done) | (simp; lia)) (by first | assumption | lia | (simp; done) | (simp; lia)) | exact op_mull (by first | assumption | lia | (simp; done) | (simp; lia)) (by first | assumption | lia | (simp; done) | (simp; lia)) (by first | assumption | lia | (simp; done) | (simp; lia)))) ev_int (by first | exact op_add | exact op_sub | exact op_mod (by first | assumption | lia | (simp; done) | (simp; lia)) | exact op_div (by first | assumption | lia | (simp; done) | (simp; lia)) (PyProof.noPylong_small (by lia)) | exact op_mul (mul_okR (by lia)) | exact op_mul (mul_okL (by lia)) | exact op_adds (by first | assumption | lia | (simp; done) | (simp; lia)) | exact op_addl (by first | assumption | lia | (simp; done) | (simp; lia)) | exact op_muls (by first | assumption | lia | (simp; done) | (simp; lia)) (by first | assumption | lia | (simp; done) | (simp; lia)) | exact op_mull (by first | assumption | lia | (simp; done) | (simp; lia)) (by first | assumption | lia | (simp; done) | (simp; lia)) (by first | assumption | lia | (simp; done) | (simp; lia)))) (ev_local (by repeat first | exact GetAt.head | apply GetAt.tail)) ev_int (by lia) (by simp) (by simp) .head ?_
        exact ex_return (ev_bin (ev_bin (ev_item_cell (ev_local (by repeat first | exact GetAt.head | apply GetAt.tail)) ev_int (.head _) (by lia) (by lia) (hd0_get (ns := [(x * 48271 + 11) % 2147483647]) (by simp))) ev_int (by first | exact op_add | exact op_sub | exact op_mod (by first | assumption | lia | (simp; done) | (simp; lia)) | exact op_div (by first | assumption | lia | (simp; done) | (simp; lia)) (PyProof.noPylong_small (by lia)) | exact op_mul (mul_okR (by lia)) | exact op_mul (mul_okL (by lia)) | exact op_adds (by first | assumption | lia | (simp; done) | (simp; lia)) | exact op_addl (by first | assumption | lia | (simp; done) | (simp; lia)) | exact op_muls (by first | assumption | lia | (simp; done) | (simp; lia)) (by first | assumption | lia | (simp; done) | (simp; lia)) | exact op_mull (by first | assumption | lia | (simp; done) | (simp; lia)) (by first | assumption | lia | (simp; done) | (simp; lia)) (by first | assumption | lia | (simp; done) | (simp; lia)))) (ev_local (by repeat first | exact GetAt.head | apply GetAt.tail)) (by first | exact op_add | exact op_sub | exact op_mod (by first | assumption | lia | (simp; done) | (simp; lia)) | exact op_div (by first | assumption | lia | (simp; done) | (simp; lia)) (PyProof.noPylong_small (by lia)) | exact op_mul (mul_okR (by lia)) | exact op_mul (mul_okL (by lia)) | exact op_adds (by first | assumption | lia | (simp; done) | (simp; lia)) | exact op_addl (by first | assumption | lia | (simp; done) | (simp; lia)) | exact op_muls (by first | assumption | lia | (simp; done) | (simp; lia)) (by first | assumption | lia | (simp; done) | (simp; lia)) | exact op_mull (by first | assumption | lia | (simp; done) | (simp; lia)) (by first | assumption | lia | (simp; done) | (simp; lia)) (by first | assumption | lia | (simp; done) | (simp; lia)))) ⟨rfl, rfl⟩
      | x :: y :: r, hok =>
        have hx := hok.bd x (.head _)
        refine ex_if (et_cmp (ev_len_cell (ev_builtin (by repeat first | exact List.Mem.head _ | apply List.Mem.tail) K.g_len rfl (by decide)) (ev_local (by repeat first | exact GetAt.head | apply GetAt.tail)) (.head _) (by simp at hl ⊢; lia)) ev_int cp_gt) (fun hb => ?_) (fun hb => by simp at hb; lia)
        refine ex_assign (ev_bin (ev_item_cell (ev_local (by repeat first | exact GetAt.head | apply GetAt.tail)) ev_int (.head _) (by lia) (by lia) (hd0_get (ns := x :: y :: r) (by simp))) (ev_local (by repeat first | exact GetAt.head | apply GetAt.tail)) (by first | exact op_add | exact op_sub | exact op_mod (by first | assumption | lia | (simp; done) | (simp; lia)) | exact op_div (by first | assumption | lia | (simp; done) | (simp; lia)) (PyProof.noPylong_small (by lia)) | exact op_mul (mul_okR (by lia)) | exact op_mul (mul_okL (by lia)) | exact op_adds (by first | assumption | lia | (simp; done) | (simp; lia)) | exact op_addl (by first | assumption | lia | (simp; done) | (simp; lia)) | exact op_muls (by first | assumption | lia | (simp; done) | (simp; lia)) (by first | assumption | lia | (simp; done) | (simp; lia)) | exact op_mull (by first | assumption | lia | (simp; done) | (simp; lia)) (by first | assumption | lia | (simp; done) | (simp; lia)) (by first | assumption | lia | (simp; done) | (simp; lia)))) (by repeat first | exact SetAt.head | apply SetAt.tail) ?_
        refine ex_set_item (ns := x :: y :: r) (j := x / m) (ev_bin (ev_item_cell (ev_local (by repeat first | exact GetAt.head | apply GetAt.tail)) ev_int (.head _) (by lia) (by lia) (hd0_get (ns := x :: y :: r) (by simp))) (ev_local (by repeat first | exact GetAt.head | apply GetAt.tail)) (op_div hm.1 ?_)) (ev_local (by repeat first | exact GetAt.head | apply GetAt.tail)) ev_int (by lia) (by simp; lia) (by simp at hl ⊢; lia) .head ?_
        · exact PyProof.noPylong_small (by lia)
        exact ex_return (ev_local (by repeat first | exact GetAt.head | apply GetAt.tail)) ⟨rfl, rfl⟩
theorem KOk.f_one (K : KOk c) (a : Addr) (ns : List Int) {l : List Nat} (h : DeckOk ns) (hl : 0 < l.length ∧ l.length < 1000) {x : Nat} (hx : l[(draw ns l.length).1.toNat]? = some x) : FnM c 2 (.ref 259) [.raw (.ref a), .str l] [(a, iL ns)] (.str [x]) [(a, iL (draw ns l.length).2)] :=
  fn_of_body K.d_law_one rfl fun X hW => by
    have hd := draw_ok h (m := (l.length : Nat)) (by lia)
    exact ex_return (ev_sign (ev_local (by repeat first | exact GetAt.head | apply GetAt.tail)) (ev_callC (ev_globalR (by repeat first | exact List.Mem.head _ | apply List.Mem.tail) K.g_law_draw) K.d_law_draw.isFn (el_cons (ev_local (by repeat first | exact GetAt.head | apply GetAt.tail)) (el_cons (ev_callB (ev_builtin (by repeat first | exact List.Mem.head _ | apply List.Mem.tail) K.g_len rfl (by decide)) (el_cons (ev_local (by repeat first | exact GetAt.head | apply GetAt.tail)) el_nil) (by first | exact bi_len_list (by first | assumption | lia | (simp; done) | (simp; lia)) | exact bi_len_str (by first | assumption | lia | (simp; done) | (simp; lia)) | exact bi_abs | exact bi_max | exact bi_min | exact bi_chr (by first | assumption | lia | (simp; done) | (simp; lia)) (by first | assumption | lia | (simp; done) | (simp; lia)) | exact bi_ord | exact bi_lstrip (by first | assumption | lia | (simp; done) | (simp; lia)) | exact bi_rstrip (by first | assumption | lia | (simp; done) | (simp; lia)) | exact bi_strip (by first | assumption | lia | (simp; done) | (simp; lia)) | exact bi_count | exact bi_expandtabs (by first | assumption | lia | (simp; done) | (simp; lia)) (by first | assumption | lia | (simp; done) | (simp; lia)) (by first | assumption | lia | (simp; done) | (simp; lia)) | exact bi_split (by first | assumption | lia | (simp; done) | (simp; lia)) | exact bi_sorted2)) el_nil)) (K.f_draw a ns h (by lia)) (by decide) (by repeat first | exact CsSet.head | apply CsSet.tail)) hd.1 (by lia) hx) ⟨rfl, rfl⟩
theorem KOk.f_column_of (K : KOk c) {l : List Nat} {w : Nat} (hw : 0 < w ∧ w ≤ 300) (h : l.length ≤ 50000) : FnP c 1 (.ref 283) [.str l, .int w] (.int (colOf w l)) :=
  fp_of_body K.d_law_column_of rfl fun X => by
    have h1 := expt_len w l hw h
    exact ex_return (ev_callB (ev_builtin (by repeat first | exact List.Mem.head _ | apply List.Mem.tail) K.g_len rfl (by decide)) (el_cons (ev_smeth PySem.F.slot_str_expandtabs PySem.F.type_str_expandtabs (ev_local (by repeat first | exact GetAt.head | apply GetAt.tail)) (el_cons (ev_local (by repeat first | exact GetAt.head | apply GetAt.tail)) el_nil) (bi_expandtabs hw.1 (by lia) (by lia))) el_nil) (bi_len_str (by lia))) ⟨rfl, rfl⟩
theorem KOk.f_indented (K : KOk c) {l : List Nat} {col w : Int} {tabs : Bool} (hw : 0 < w ∧ w ≤ 300) (hc : -100000 ≤ col ∧ col ≤ 100000) (h : l.length ≤ 50000) : FnP c 1 (.ref 276) [.str l, .int col, .int w, .bool tabs] (.str (indd l col w tabs)) :=
  fp_of_body K.d_law_indented rfl fun X => by
    have hls := lstr_le l
    refine ex_assign (ev_smeth PySem.F.slot_str_lstrip PySem.F.type_str_lstrip (ev_local (by repeat first | exact GetAt.head | apply GetAt.tail)) (el_cons (ev_str (l := [32, 9]) rfl) el_nil) (by first | exact bi_len_list (by first | assumption | lia | (simp; done) | (simp; lia)) | exact bi_len_str (by first | assumption | lia | (simp; done) | (simp; lia)) | exact bi_abs | exact bi_max | exact bi_min | exact bi_chr (by first | assumption | lia | (simp; done) | (simp; lia)) (by first | assumption | lia | (simp; done) | (simp; lia)) | exact bi_ord | exact bi_lstrip (by first | assumption | lia | (simp; done) | (simp; lia)) | exact bi_rstrip (by first | assumption | lia | (simp; done) | (simp; lia)) | exact bi_strip (by first | assumption | lia | (simp; done) | (simp; lia)) | exact bi_count | exact bi_expandtabs (by first | assumption | lia | (simp; done) | (simp; lia)) (by first | assumption | lia | (simp; done) | (simp; lia)) (by first | assumption | lia | (simp; done) | (simp; lia)) | exact bi_split (by first | assumption | lia | (simp; done) | (simp; lia)) | exact bi_sorted2)) (by repeat first | exact SetAt.head | apply SetAt.tail) ?_
    unfold indd
    refine ex_if (et_cmp (ev_local (by repeat first | exact GetAt.head | apply GetAt.tail)) (ev_str (l := []) rfl) (by first | exact cp_lt | exact cp_le | exact cp_gt | exact cp_ge | exact cp_eq | exact cp_ne | exact cp_eqs | exact cp_nes | exact cp_eqb | exact cp_in_tup | exact cp_notin_tup | exact cp_in_str | exact cp_notin_str)) (fun hb => ?_) (fun hb => ?_)
    · rw [if_pos (of_decide_eq_true hb)]
      exact ex_return (ev_str (l := []) rfl) ⟨rfl, rfl⟩
    rw [if_neg (of_decide_eq_false hb)]
    refine ex_assign (p := .int (if col > 0 then col else 0)) (ev_callB (ev_builtin (by repeat first | exact List.Mem.head _ | apply List.Mem.tail) K.g_max rfl (by decide)) (el_cons ev_int (el_cons (ev_local (by repeat first | exact GetAt.head | apply GetAt.tail)) el_nil)) (by first | exact bi_len_list (by first | assumption | lia | (simp; done) | (simp; lia)) | exact bi_len_str (by first | assumption | lia | (simp; done) | (simp; lia)) | exact bi_abs | exact bi_max | exact bi_min | exact bi_chr (by first | assumption | lia | (simp; done) | (simp; lia)) (by first | assumption | lia | (simp; done) | (simp; lia)) | exact bi_ord | exact bi_lstrip (by first | assumption | lia | (simp; done) | (simp; lia)) | exact bi_rstrip (by first | assumption | lia | (simp; done) | (simp; lia)) | exact bi_strip (by first | assumption | lia | (simp; done) | (simp; lia)) | exact bi_count | exact bi_expandtabs (by first | assumption | lia | (simp; done) | (simp; lia)) (by first | assumption | lia | (simp; done) | (simp; lia)) (by first | assumption | lia | (simp; done) | (simp; lia)) | exact bi_split (by first | assumption | lia | (simp; done) | (simp; lia)) | exact bi_sorted2)) (by repeat first | exact SetAt.head | apply SetAt.tail) ?_
    have hw0 : (0 : Int) ≤ (if col > 0 then col else 0) ∧ (if col > 0 then col else 0) ≤ 100000 := by split <;> lia
    generalize (if col > 0 then col else 0) = m at *
    have hm := mod_bd (a := m) hw.1
    have hd := Int.ediv_nonneg hw0.1 (Int.le_of_lt hw.1)
    have hd2 := Int.ediv_le_self w hw0.1
    refine ex_return (ev_bin (ev_if (p := .str (if tabs then List.replicate (m / w).toNat 9 ++ List.replicate (m % w).toNat 32 else List.replicate m.toNat 32)) (et_value (ev_local (by repeat first | exact GetAt.head | apply GetAt.tail))) (fun hT => ev_conv (ev_bin (ev_bin (ev_str (l := [9]) rfl) (ev_bin (ev_local (by repeat first | exact GetAt.head | apply GetAt.tail)) (ev_local (by repeat first | exact GetAt.head | apply GetAt.tail)) (by first | exact op_add | exact op_sub | exact op_mod (by first | assumption | lia | (simp; done) | (simp; lia)) | exact op_div (by first | assumption | lia | (simp; done) | (simp; lia)) (PyProof.noPylong_small (by lia)) | exact op_mul (mul_okR (by lia)) | exact op_mul (mul_okL (by lia)) | exact op_adds (by first | assumption | lia | (simp; done) | (simp; lia)) | exact op_addl (by first | assumption | lia | (simp; done) | (simp; lia)) | exact op_muls (by first | assumption | lia | (simp; done) | (simp; lia)) (by first | assumption | lia | (simp; done) | (simp; lia)) | exact op_mull (by first | assumption | lia | (simp; done) | (simp; lia)) (by first | assumption | lia | (simp; done) | (simp; lia)) (by first | assumption | lia | (simp; done) | (simp; lia)))) (by first | exact op_add | exact op_sub | exact op_mod (by first | assumption | lia | (simp; done) | (simp; lia)) | exact op_div (by first | assumption | lia | (simp; done) | (simp; lia)) (PyProof.noPylong_small (by lia)) | exact op_mul (mul_okR (by lia)) | exact op_mul (mul_okL (by lia)) | exact op_adds (by first | assumption | lia | (simp; done) | (simp; lia)) | exact op_addl (by first | assumption | lia | (simp; done) | (simp; lia)) | exact op_muls (by first | assumption | lia | (simp; done) | (simp; lia)) (by first | assumption | lia | (simp; done) | (simp; lia)) | exact op_mull (by first | assumption | lia | (simp; done) | (simp; lia)) (by first | assumption | lia | (simp; done) | (simp; lia)) (by first | assumption | lia | (simp; done) | (simp; lia)))) (ev_bin (ev_str (l := [32]) rfl) (ev_bin (ev_local (by repeat first | exact GetAt.head | apply GetAt.tail)) (ev_local (by repeat first | exact GetAt.head | apply GetAt.tail)) (by first | exact op_add | exact op_sub | exact op_mod (by first | assumption | lia | (simp; done) | (simp; lia)) | exact op_div (by first | assumption | lia | (simp; done) | (simp; lia)) (PyProof.noPylong_small (by lia)) | exact op_mul (mul_okR (by lia)) | exact op_mul (mul_okL (by lia)) | exact op_adds (by first | assumption | lia | (simp; done) | (simp; lia)) | exact op_addl (by first | assumption | lia | (simp; done) | (simp; lia)) | exact op_muls (by first | assumption | lia | (simp; done) | (simp; lia)) (by first | assumption | lia | (simp; done) | (simp; lia)) | exact op_mull (by first | assumption | lia | (simp; done) | (simp; lia)) (by first | assumption | lia | (simp; done) | (simp; lia)) (by first | assumption | lia | (simp; done) | (simp; lia)))) (by first | exact op_add | exact op_sub | exact op_mod (by first | assumption | lia | (simp; done) | (simp; lia)) | exact op_div (by first | assumption | lia | (simp; done) | (simp; lia)) (PyProof.noPylong_small (by lia)) | exact op_mul (mul_okR (by lia)) | exact op_mul (mul_okL (by lia)) | exact op_adds (by first | assumption | lia | (simp; done) | (simp; lia)) | exact op_addl (by first | assumption | lia | (simp; done) | (simp; lia)) | exact op_muls (by first | assumption | lia | (simp; done) | (simp; lia)) (by first | assumption | lia | (simp; done) | (simp; lia)) | exact op_mull (by first | assumption | lia | (simp; done) | (simp; lia)) (by first | assumption | lia | (simp; done) | (simp; lia)) (by first | assumption | lia | (simp; done) | (simp; lia)))) (by first | exact op_add | exact op_sub | exact op_mod (by first | assumption | lia | (simp; done) | (simp; lia)) | exact op_div (by first | assumption | lia | (simp; done) | (simp; lia)) (PyProof.noPylong_small (by lia)) | exact op_mul (mul_okR (by lia)) | exact op_mul (mul_okL (by lia)) | exact op_adds (by first | assumption | lia | (simp; done) | (simp; lia)) | exact op_addl (by first | assumption | lia | (simp; done) | (simp; lia)) | exact op_muls (by first | assumption | lia | (simp; done) | (simp; lia)) (by first | assumption | lia | (simp; done) | (simp; lia)) | exact op_mull (by first | assumption | lia | (simp; done) | (simp; lia)) (by first | assumption | lia | (simp; done) | (simp; lia)) (by first | assumption | lia | (simp; done) | (simp; lia)))) (by rw [if_pos hT])) (fun hF => ev_conv (ev_bin (ev_str (l := [32]) rfl) (ev_local (by repeat first | exact GetAt.head | apply GetAt.tail)) (by first | exact op_add | exact op_sub | exact op_mod (by first | assumption | lia | (simp; done) | (simp; lia)) | exact op_div (by first | assumption | lia | (simp; done) | (simp; lia)) (PyProof.noPylong_small (by lia)) | exact op_mul (mul_okR (by lia)) | exact op_mul (mul_okL (by lia)) | exact op_adds (by first | assumption | lia | (simp; done) | (simp; lia)) | exact op_addl (by first | assumption | lia | (simp; done) | (simp; lia)) | exact op_muls (by first | assumption | lia | (simp; done) | (simp; lia)) (by first | assumption | lia | (simp; done) | (simp; lia)) | exact op_mull (by first | assumption | lia | (simp; done) | (simp; lia)) (by first | assumption | lia | (simp; done) | (simp; lia)) (by first | assumption | lia | (simp; done) | (simp; lia)))) (by rw [if_neg (by rw [hF]; decide)]))) (ev_local (by repeat first | exact GetAt.head | apply GetAt.tail)) (op_adds ?_)) ⟨rfl, rfl⟩
    cases tabs
    · simp; lia
    · simp; lia
theorem KOk.f_blank_columns (K : KOk c) {l : List Nat} {w : Nat} (hw : 0 < w ∧ w ≤ 300) (h : l.length ≤ 50000) : FnP c 2 (.ref 290) [.str l, .int w] (.int (colOf w (lead l))) :=
  fp_of_body K.d_law_blank_columns rfl fun X => by
    have hls := lstr_le l
    have hlead := lead_le l
    exact ex_return (ev_call0 (ev_globalR (by repeat first | exact List.Mem.head _ | apply List.Mem.tail) K.g_law_column_of) K.d_law_column_of.isFn (el_cons (ev_conv (ev_cut_str (ev_local (by repeat first | exact GetAt.head | apply GetAt.tail)) eo_none (eo_some (ev_bin (ev_callB (ev_builtin (by repeat first | exact List.Mem.head _ | apply List.Mem.tail) K.g_len rfl (by decide)) (el_cons (ev_local (by repeat first | exact GetAt.head | apply GetAt.tail)) el_nil) (by first | exact bi_len_list (by first | assumption | lia | (simp; done) | (simp; lia)) | exact bi_len_str (by first | assumption | lia | (simp; done) | (simp; lia)) | exact bi_abs | exact bi_max | exact bi_min | exact bi_chr (by first | assumption | lia | (simp; done) | (simp; lia)) (by first | assumption | lia | (simp; done) | (simp; lia)) | exact bi_ord | exact bi_lstrip (by first | assumption | lia | (simp; done) | (simp; lia)) | exact bi_rstrip (by first | assumption | lia | (simp; done) | (simp; lia)) | exact bi_strip (by first | assumption | lia | (simp; done) | (simp; lia)) | exact bi_count | exact bi_expandtabs (by first | assumption | lia | (simp; done) | (simp; lia)) (by first | assumption | lia | (simp; done) | (simp; lia)) (by first | assumption | lia | (simp; done) | (simp; lia)) | exact bi_split (by first | assumption | lia | (simp; done) | (simp; lia)) | exact bi_sorted2)) (ev_callB (ev_builtin (by repeat first | exact List.Mem.head _ | apply List.Mem.tail) K.g_len rfl (by decide)) (el_cons (ev_smeth PySem.F.slot_str_lstrip PySem.F.type_str_lstrip (ev_local (by repeat first | exact GetAt.head | apply GetAt.tail)) (el_cons (ev_str (l := [32, 9]) rfl) el_nil) (by first | exact bi_len_list (by first | assumption | lia | (simp; done) | (simp; lia)) | exact bi_len_str (by first | assumption | lia | (simp; done) | (simp; lia)) | exact bi_abs | exact bi_max | exact bi_min | exact bi_chr (by first | assumption | lia | (simp; done) | (simp; lia)) (by first | assumption | lia | (simp; done) | (simp; lia)) | exact bi_ord | exact bi_lstrip (by first | assumption | lia | (simp; done) | (simp; lia)) | exact bi_rstrip (by first | assumption | lia | (simp; done) | (simp; lia)) | exact bi_strip (by first | assumption | lia | (simp; done) | (simp; lia)) | exact bi_count | exact bi_expandtabs (by first | assumption | lia | (simp; done) | (simp; lia)) (by first | assumption | lia | (simp; done) | (simp; lia)) (by first | assumption | lia | (simp; done) | (simp; lia)) | exact bi_split (by first | assumption | lia | (simp; done) | (simp; lia)) | exact bi_sorted2)) el_nil) (by first | exact bi_len_list (by first | assumption | lia | (simp; done) | (simp; lia)) | exact bi_len_str (by first | assumption | lia | (simp; done) | (simp; lia)) | exact bi_abs | exact bi_max | exact bi_min | exact bi_chr (by first | assumption | lia | (simp; done) | (simp; lia)) (by first | assumption | lia | (simp; done) | (simp; lia)) | exact bi_ord | exact bi_lstrip (by first | assumption | lia | (simp; done) | (simp; lia)) | exact bi_rstrip (by first | assumption | lia | (simp; done) | (simp; lia)) | exact bi_strip (by first | assumption | lia | (simp; done) | (simp; lia)) | exact bi_count | exact bi_expandtabs (by first | assumption | lia | (simp; done) | (simp; lia)) (by first | assumption | lia | (simp; done) | (simp; lia)) (by first | assumption | lia | (simp; done) | (simp; lia)) | exact bi_split (by first | assumption | lia | (simp; done) | (simp; lia)) | exact bi_sorted2)) (by first | exact op_add | exact op_sub | exact op_mod (by first | assumption | lia | (simp; done) | (simp; lia)) | exact op_div (by first | assumption | lia | (simp; done) | (simp; lia)) (PyProof.noPylong_small (by lia)) | exact op_mul (mul_okR (by lia)) | exact op_mul (mul_okL (by lia)) | exact op_adds (by first | assumption | lia | (simp; done) | (simp; lia)) | exact op_addl (by first | assumption | lia | (simp; done) | (simp; lia)) | exact op_muls (by first | assumption | lia | (simp; done) | (simp; lia)) (by first | assumption | lia | (simp; done) | (simp; lia)) | exact op_mull (by first | assumption | lia | (simp; done) | (simp; lia)) (by first | assumption | lia | (simp; done) | (simp; lia)) (by first | assumption | lia | (simp; done) | (simp; lia))))) (by lia)) (q := .str (lead l)) (by rw [cut_take _ (by lia), lead_eq])) (el_cons (ev_local (by repeat first | exact GetAt.head | apply GetAt.tail)) el_nil)) (K.f_column_of hw (by lia)) (by decide)) ⟨rfl, rfl⟩
theorem flat_ones : ∀ cs : List Nat, (cs.map fun n => [n]).flatten = cs
  | [] => rfl
  | n :: r => by rw [List.map_cons, List.flatten_cons, flat_ones r]; rfl
theorem chrs_join (cs : List Nat) : Txt.join ⟨#[]⟩ ((cs.map fun n => [n]).map mkS) = mkS cs :=
  (StrLaws.glued_eq_join _ _).trans ((join_none _).trans (by rw [flat_ones]))
theorem lines_join (ls : List (List Nat)) : Txt.join ⟨#[10]⟩ (ls.map mkS) = mkS (unl ls) := (StrLaws.glued_eq_join _ _).trans (join_nl ls)
theorem ones_sum (cs : List Nat) : ((cs.map fun n => [n]).map (·.length)).sum = cs.length := by
  induction cs with
  | nil => rfl
  | cons n r ih => simp at ih ⊢; lia
theorem ev_chr_comp (K : KOk c) {k : Nat} {nk gl : List Str} {cl clo : List (Str × Addr)} {X : Fx c k nk gl cl} {vs : List (Option PV)} {cs cs1 : Cells} {codes : List Nat} {e : Expr} {scope : Scope} {x : Str} {p1 p2 p3 px pos : Pos} (ok : CompOk X scope x [ks "chr"] [] clo)
    (h : Ev X vs cs e (.list (codes.map fun n : Nat => .int n)) cs1) (hc : ∀ n ∈ codes, n < 1000) (hn : codes.length ≤ 1000) (hx : (x == ("__debug__" : Str)) = false) (hs : ∀ v, foldedSetIterable e X.env v = pure v := by intro _; rfl) :
    Ev X vs cs (.ListComp (.Call (.Name (ks "chr") p1) [.Name x p2] [] p3) [⟨.Name x px, e, [], 0⟩] scope pos) (.list ((codes.map fun n => [n]).map PV.str)) cs1 := by
  have hl : (codes.map fun n : Nat => PV.int n).length = codes.length := by simp
  refine ev_conv (ev_comp (n := codes.length) (item := fun j => .int (codes.getD j 0 : Nat)) (gl' := [ks "chr"]) (cl' := []) (clo := clo) (fun _ => cs1) (fun j => ((codes.take j).map fun n => [n]).map PV.str) ok (by rw [← hl]; exact (src_list h).conv fun i hi => by rw [hl] at hi; simp [List.getD, hi]) (by rw [List.take_zero]; rfl) (fun i _ => by simp; lia) (fun _ => rfl) (fun i hi X' eA eS z1 z2 => ?_) hs) (by simp)
  have hg : codes.getD i 0 = codes[i] := by simp [hi]
  simp only [hg]
  have h1 := hc codes[i] (List.getElem_mem hi)
  refine ⟨true, .inl (by simp), .inr ⟨rfl, .str [codes[i]], ?_, ?_⟩⟩
  · rw [← List.take_append_getElem hi, List.map_append, List.map_append]; rfl
  · exact ev_conv (ev_callB (ev_builtin (by repeat first | exact List.Mem.head _ | apply List.Mem.tail) K.g_chr rfl (by decide)) (el_cons (ev_local (by repeat first | exact GetAt.head | apply GetAt.tail) hx) el_nil) (bi_chr (by lia) (by lia))) (by simp)
noncomputable def edI (f : Int) (e : Edit) : List PV := [.int (f + e.1), .int (f + e.2.1), .list (e.2.2.map fun n : Nat => .int n)]
theorem done_take (t : List Nat) (es : List Edit) {i : Nat} (h : i < es.length) : done t (es.take (i + 1)) = appE (done t (es.take i)) es[i] := by
  rw [← List.take_append_getElem h, done_snoc]
set_option maxHeartbeats 1000000 in
theorem KOk.f_done (K : KOk c) {t : List Nat} {es : List Edit} {f : Int} (ht : t.length ≤ 1000) (hn : es.length ≤ 1000) (hf : 0 ≤ f ∧ f < 100000) (he : ∀ e ∈ es, e.1 ≤ e.2.1 ∧ e.2.1 ≤ 100000 ∧ e.2.2.length ≤ 1000 ∧ ∀ n ∈ e.2.2, n < 1000) : FnP c 1 (.ref 269) [.str t, .list (es.map (edt f)), .int f] (.str (done t es)) :=
  fp_of_body K.d_law_done rfl fun X => by
    have hlen : (es.map (edt f)).length = es.length := by simp
    have hbd : ∀ i, i ≤ es.length → (done t (es.take i)).length ≤ 1001000 := fun i hi => by
      have h1 := done_length t 1000 (es.take i) fun e h => ⟨(he e (List.mem_of_mem_take h)).1, (he e (List.mem_of_mem_take h)).2.2.1⟩
      rw [List.length_take, Nat.min_eq_left hi] at h1
      have h2 : i * 1000 ≤ 1000 * 1000 := Nat.mul_le_mul_right _ (by lia)
      lia
    refine ex_forT (n := es.length) (item := fun i => edI f (es.getD i (0, 0, [])))
      (fun i vs cs => vs = [some (.str (done t (es.take i))), some (.list (es.map (edt f))), some (.int f), none, none, none] ∧ cs = []) (by rw [← hlen]; exact (src_list (ev_local (by repeat first | exact GetAt.head | apply GetAt.tail))).conv fun i hi => by rw [hlen] at hi; simp [List.getD, hi]; rfl) ⟨by simp; rfl, rfl⟩ (fun i vs cs hi hJ => ?_) (fun vs cs hJ => ?_)
    · obtain ⟨rfl, rfl⟩ := hJ
      have hg : es.getD i (0, 0, []) = es[i] := by simp [hi]
      simp only [hg]
      obtain ⟨e1, e2, e3, e4⟩ := he es[i] (List.getElem_mem hi)
      have hd := hbd i (by lia)
      refine ⟨_, fun z => .cons (.loc (by repeat first | exact SetAt.head | apply SetAt.tail)) (.cons (.loc (by repeat first | exact SetAt.head | apply SetAt.tail)) (.cons (.loc (by repeat first | exact SetAt.head | apply SetAt.tail)) .nil)), fun z => ?_⟩
      refine ex_assign (ev_bin (ev_bin (ev_conv (ev_cut_str (ev_local (by repeat first | exact GetAt.head | apply GetAt.tail)) eo_none (eo_some (ev_bin (ev_local (by repeat first | exact GetAt.head | apply GetAt.tail)) (ev_local (by repeat first | exact GetAt.head | apply GetAt.tail)) (by first | exact op_add | exact op_sub | exact op_mod (by first | assumption | lia | (simp; done) | (simp; lia)) | exact op_div (by first | assumption | lia | (simp; done) | (simp; lia)) (PyProof.noPylong_small (by lia)) | exact op_mul (mul_okR (by lia)) | exact op_mul (mul_okL (by lia)) | exact op_adds (by first | assumption | lia | (simp; done) | (simp; lia)) | exact op_addl (by first | assumption | lia | (simp; done) | (simp; lia)) | exact op_muls (by first | assumption | lia | (simp; done) | (simp; lia)) (by first | assumption | lia | (simp; done) | (simp; lia)) | exact op_mull (by first | assumption | lia | (simp; done) | (simp; lia)) (by first | assumption | lia | (simp; done) | (simp; lia)) (by first | assumption | lia | (simp; done) | (simp; lia))))) (by lia)) (q := .str ((done t (es.take i)).take es[i].1)) (by rw [cut_take _ (by lia)]; congr 2; lia)) (ev_smeth PySem.F.slot_str_join PySem.F.type_str_join (ev_str (l := []) rfl) (el_cons (ev_chr_comp K (clo := []) ⟨rfl, by decide, rfl, by decide, rfl, by decide, fun _ h => nomatch h⟩ (ev_local (by repeat first | exact GetAt.head | apply GetAt.tail)) e4 e3 rfl) el_nil) (bi_join (by simp) (by rw [ones_sum, List.length_map]; lia) (chrs_join es[i].2.2))) (by first | exact op_add | exact op_sub | exact op_mod (by first | assumption | lia | (simp; done) | (simp; lia)) | exact op_div (by first | assumption | lia | (simp; done) | (simp; lia)) (PyProof.noPylong_small (by lia)) | exact op_mul (mul_okR (by lia)) | exact op_mul (mul_okL (by lia)) | exact op_adds (by first | assumption | lia | (simp; done) | (simp; lia)) | exact op_addl (by first | assumption | lia | (simp; done) | (simp; lia)) | exact op_muls (by first | assumption | lia | (simp; done) | (simp; lia)) (by first | assumption | lia | (simp; done) | (simp; lia)) | exact op_mull (by first | assumption | lia | (simp; done) | (simp; lia)) (by first | assumption | lia | (simp; done) | (simp; lia)) (by first | assumption | lia | (simp; done) | (simp; lia)))) (ev_conv (ev_cut_str (ev_local (by repeat first | exact GetAt.head | apply GetAt.tail)) (eo_some (ev_bin (ev_local (by repeat first | exact GetAt.head | apply GetAt.tail)) (ev_local (by repeat first | exact GetAt.head | apply GetAt.tail)) (by first | exact op_add | exact op_sub | exact op_mod (by first | assumption | lia | (simp; done) | (simp; lia)) | exact op_div (by first | assumption | lia | (simp; done) | (simp; lia)) (PyProof.noPylong_small (by lia)) | exact op_mul (mul_okR (by lia)) | exact op_mul (mul_okL (by lia)) | exact op_adds (by first | assumption | lia | (simp; done) | (simp; lia)) | exact op_addl (by first | assumption | lia | (simp; done) | (simp; lia)) | exact op_muls (by first | assumption | lia | (simp; done) | (simp; lia)) (by first | assumption | lia | (simp; done) | (simp; lia)) | exact op_mull (by first | assumption | lia | (simp; done) | (simp; lia)) (by first | assumption | lia | (simp; done) | (simp; lia)) (by first | assumption | lia | (simp; done) | (simp; lia))))) eo_none (by lia)) (q := .str ((done t (es.take i)).drop es[i].2.1)) (by rw [cut_drop _ (by lia)]; congr 2; lia)) (by first | exact op_add | exact op_sub | exact op_mod (by first | assumption | lia | (simp; done) | (simp; lia)) | exact op_div (by first | assumption | lia | (simp; done) | (simp; lia)) (PyProof.noPylong_small (by lia)) | exact op_mul (mul_okR (by lia)) | exact op_mul (mul_okL (by lia)) | exact op_adds (by first | assumption | lia | (simp; done) | (simp; lia)) | exact op_addl (by first | assumption | lia | (simp; done) | (simp; lia)) | exact op_muls (by first | assumption | lia | (simp; done) | (simp; lia)) (by first | assumption | lia | (simp; done) | (simp; lia)) | exact op_mull (by first | assumption | lia | (simp; done) | (simp; lia)) (by first | assumption | lia | (simp; done) | (simp; lia)) (by first | assumption | lia | (simp; done) | (simp; lia)))) (by repeat first | exact SetAt.head | apply SetAt.tail) (ex_nil ⟨[], _, rfl, ?_, rfl, rfl⟩)
      refine .eq ?_ (.keep (.keep (.drop (.drop (.drop .nil)))))
      rw [done_take _ _ hi]; rfl
    · obtain ⟨rfl, rfl⟩ := hJ
      exact ex_return (ev_local (by repeat first | exact GetAt.head | apply GetAt.tail)) ⟨by simp, rfl⟩
end Mine

end
section
open PySem PySem.W PyProof.Rows
namespace Mine
open PySem PySem.Calls PySem.W PyProof.Rows PySem.Builtin.Str
variable {c : Cx}
set_option maxRecDepth 100000
/-- a list of ints as an object of any make -/
noncomputable def RawL (a : Addr) (ns : List Int) (F : Fz) : Prop := ∃ o us n, F a = some o ∧ o.cls = .type "list" ∧ o.data = .seq us n ∧ Iss F (ns.map PV.int) us.toList
section
variable {k : Nat} {nk gl : List Str} {cl : List (Str × Addr)} {X : Fx c k nk gl cl} {F : Fz} {vs vs1 vs' : List (Option PV)} {cs cs1 cs2 cs3 cs4 : Cells}
theorem ev_cut_raw {value : Expr} {l u : Option Expr} {sp pos : Pos} {a : Addr} {ns : List Int} {lo hi : Option Int} (hr : RawL a ns X.F0) (hv : Ev X vs cs value (.raw (.ref a)) cs1) (hl : EvO X vs cs1 l lo cs2) (hu : EvO X vs cs2 u hi cs3) (hx : ns.length ≤ 16777216)
    (hs : ∀ o i, ∃ ops, subscripted (.Slice l u none sp) false o i = operate ops (getItem o i) := by intro _ _; exact ⟨_, by with_unfolding_all rfl⟩) :
    Ev X vs cs (.Subscript value (.Slice l u none sp) pos) (.list ((cut ns lo hi).map PV.int)) cs3 :=
  ev_slice hv hl hu eo_none (fun ts s F u sl vl vu vst i hs h1 h2 h3 => by
    have := (i.tmp _ (.head _)).traw; subst this
    obtain ⟨o, us, n, e, hc, hd, his⟩ := hr
    have L : s.heap.IsList a us := ⟨o, i.on _ _ (i.le _ _ e), hc, n, hd⟩
    have his := his.mono i.le
    refine ⟨_, _, slot_list_getitem.lookup, L.typeIs, wpAny_getItem_list_slice L hs (isPart h1).1 (isPart h2).1 (isPart (o := none) h3).1 (by simp) ?_ (by rw [his.size, sizeLine_eq, List.length_map]; exact hx)⟩
    rw [kms_pick_eq]
    have hi' : Iss F (cut (ns.map PV.int) lo hi) (kms_pick us.toList lo hi) := his.cut lo hi
    rw [show cut (ns.map PV.int) lo hi = (cut ns lo hi).map PV.int by unfold cut; rw [List.map_take, List.map_drop, List.length_map]] at hi'
    have hi2 := hi'.mono (Fz.le_add (o := listObj (kms_pick us.toList lo hi).toArray 0) (i.new (Nat.le_refl _)))
    exact ⟨_, (i.pop.alloc (listObj (kms_pick us.toList lo hi).toArray 0)).push _ _ (.list (n := 0) Fz.add_self (by simpa using hi2))⟩)
    hs
/-- a + b, a new list of the walk's own, handed back -/
theorem ex_return_addl {ea eb : Expr} {p1 pos : Pos} {a b : List PV} {rest : List Stmt} {N : List (Option PV) → Cells → Prop} {R : PV → Cells → Prop} (ha : Ev X vs cs ea (.list a) cs1) (hb : Ev X vs cs1 eb (.list b) cs2) (h : a.length + b.length ≤ 1000000) (r : ∀ d, R (.raw (.ref d)) ((d, .lst (a ++ b)) :: cs2)) :
    Ex X vs cs (.Return (some (.BinOp ea .Add eb p1)) pos :: rest) N R :=
  ex_cons fun ts s i => wpAny_Return_some (wpAny_BinOp (wm (ha ts s i) fun u s1 i1 => wm (hb _ s1 i1) fun v s2 ⟨F, x⟩ => by
    obtain ⟨p, us, n, rfl, e, hi⟩ := isList (x.tmp _ (.tail _ (.head _)))
    obtain ⟨q, us', n', rfl, e', hi'⟩ := isList (x.tmp _ (.head _))
    have j := x.pop2
    obtain ⟨m, news, Fh, Nw, k1, k2⟩ := j.viaN
    refine add_arrays Fh Nw (IsList_of (x.on _ _ e)) (IsList_of (x.on _ _ e')) (fun h' F' N' => ?_) (by rw [hi.size, hi'.size, sizeLine_eq]; lia)
    obtain ⟨n1, n2, n3, n4⟩ := x.endNew (Nat.le_refl _)
    have y := (k1 h' s2.toks F' fun p hp => N' p (.tail _ hp)).addC (cv := .lst (a ++ b)) ⟨_, ⟨0, (N' _ (.head _)).1⟩, by simpa using hi.append hi'⟩ n1 n2 n3 n4
    exact ⟨.raw (.ref s2.heap.objs.size), vs, _, r _, (y.push (.raw (.ref s2.heap.objs.size)) (.ref s2.heap.objs.size) .raw).inv⟩))
end
noncomputable def mixS (m x : Int) : Int := (m * 31 + (if x < 0 then -x else x) % 10 ^ 60 + 3) % 2147483647
noncomputable def big (x : Int) : Bool := decide (10 ^ 9 ≤ (if x < 0 then -x else x))
noncomputable def low60 (x : Int) : Int := (if x < 0 then -x else x) % 10 ^ 60
noncomputable def dkOf (ns : List Int) : List Int := ((ns.take 24).filter big).map low60 ++ [(ns.take 24).foldl mixS 7]
theorem mixS_bd (m x : Int) : 0 ≤ mixS m x ∧ mixS m x < 2147483647 := mod_bd (by decide)
theorem fold_mix_bd : ∀ (l : List Int) (m : Int), 0 ≤ m ∧ m < 2147483647 → 0 ≤ l.foldl mixS m ∧ l.foldl mixS m < 2147483647
  | [], _, h => h
  | x :: r, m, h => fold_mix_bd r _ (mixS_bd m x)
theorem low60_bd (x : Int) : 0 ≤ low60 x ∧ low60 x < 10 ^ 60 := mod_bd (by decide)
theorem dkOf_ok (ns : List Int) : DeckOk (dkOf ns) := by
  refine ⟨by simp [dkOf], ?_, fun x hx => ?_⟩
  · unfold dkOf
    have h1 := List.length_filter_le big (ns.take 24)
    have h2 : (ns.take 24).length ≤ 24 := by rw [List.length_take]; lia
    simp only [List.length_append, List.length_map, List.length_cons, List.length_nil]; lia
  · unfold dkOf at hx
    rcases List.mem_append.mp hx with hx | hx
    · obtain ⟨y, _, rfl⟩ := List.mem_map.mp hx
      exact low60_bd y
    · have : x = (ns.take 24).foldl mixS 7 := by simpa using hx
      subst this
      have := fold_mix_bd (ns.take 24) 7 (by lia)
      lia
theorem foldl_take {α β : Type} (g : β → α → β) (b : β) (l : List α) {i : Nat} (h : i < l.length) : (l.take (i + 1)).foldl g b = g ((l.take i).foldl g b) l[i] := by
  rw [← List.take_append_getElem h, List.foldl_append]; rfl
theorem KOk.f_deck_of (K : KOk c) (a : Addr) (ns : List Int) (h : ns.length ≤ 1000) : FnNew c 1 (.ref 252) (RawL a ns) [.raw (.ref a)] ((dkOf ns).map PV.int) :=
  new_of_body K.d_law_deck_of rfl fun X hW hQ => by
    refine ex_assign ev_int (by repeat first | exact SetAt.head | apply SetAt.tail) ?_
    have hcut : cut ns none (some 24) = ns.take 24 := cut_take _ (by decide)
    have hl : (ns.take 24).length ≤ 24 := by rw [List.length_take]; lia
    generalize hL : ns.take 24 = L at hcut hl
    have src : ∀ {vs : List (Option PV)} {p1 p2 p3 p4 : Pos} {kk : Nat}, GetAt ([ks "script"] ++ [ks "_law_mixed", ks "_law_cell"]) vs (ks "script") (.raw (.ref a)) → SrcR X vs [] (.Subscript (.Name (ks "script") p1) (.Slice none (some (.Constant (.int 24) kk p2)) none p3) p4) L.length (fun i => .int (L.getD i 0)) [] := fun {vs} {p1 p2 p3 p4} {kk} hg => by
      have := src_list (X := X) (vs := vs) (cs := []) (cs1 := []) (ev_cut_raw (cs1 := []) (cs2 := []) (cs3 := []) (l := none) (u := some (.Constant (.int 24) kk p2)) (sp := p3) (pos := p4) hQ (ev_local (pos := p1) hg) eo_none (eo_some ev_int) (by lia))
      rw [hcut, List.length_map] at this
      exact this.conv fun i hi => by simp [List.getD, hi]
    refine ex_for (fun i vs cs => vs = [some (.raw (.ref a)), some (.int ((L.take i).foldl mixS 7)), none] ∧ cs = []) (src (by repeat first | exact GetAt.head | apply GetAt.tail)) ⟨by simp, rfl⟩ (fun i vs cs hi hJ => ?_) (fun vs cs hJ => ?_)
    · obtain ⟨rfl, rfl⟩ := hJ
      refine ⟨_, by (repeat first | exact SetAt.head | apply SetAt.tail), fun z => ?_⟩
      have hg : L.getD i 0 = L[i] := by simp [hi]
      have h60 : (10 : Int) ^ (60 : Int).toNat = 10 ^ 60 := rfl
      have hmb := fold_mix_bd (L.take i) 7 (by lia)
      refine ex_assign (p := .int (mixS ((L.take i).foldl mixS 7) (L.getD i 0))) (ev_bin (ev_bin (ev_bin (ev_bin (ev_local (by repeat first | exact GetAt.head | apply GetAt.tail)) ev_int (by first | exact op_add | exact op_sub | exact op_mod (by first | assumption | lia | (simp; done) | (simp; lia)) | exact op_div (by first | assumption | lia | (simp; done) | (simp; lia)) (PyProof.noPylong_small (by lia)) | exact op_mul (mul_okR (by lia)) | exact op_mul (mul_okL (by lia)) | exact op_adds (by first | assumption | lia | (simp; done) | (simp; lia)) | exact op_addl (by first | assumption | lia | (simp; done) | (simp; lia)) | exact op_muls (by first | assumption | lia | (simp; done) | (simp; lia)) (by first | assumption | lia | (simp; done) | (simp; lia)) | exact op_mull (by first | assumption | lia | (simp; done) | (simp; lia)) (by first | assumption | lia | (simp; done) | (simp; lia)) (by first | assumption | lia | (simp; done) | (simp; lia)))) (ev_bin (ev_callB (ev_builtin (by repeat first | exact List.Mem.head _ | apply List.Mem.tail) K.g_abs rfl (by decide)) (el_cons (ev_local (by repeat first | exact GetAt.head | apply GetAt.tail)) el_nil) (by first | exact bi_len_list (by first | assumption | lia | (simp; done) | (simp; lia)) | exact bi_len_str (by first | assumption | lia | (simp; done) | (simp; lia)) | exact bi_abs | exact bi_max | exact bi_min | exact bi_chr (by first | assumption | lia | (simp; done) | (simp; lia)) (by first | assumption | lia | (simp; done) | (simp; lia)) | exact bi_ord | exact bi_lstrip (by first | assumption | lia | (simp; done) | (simp; lia)) | exact bi_rstrip (by first | assumption | lia | (simp; done) | (simp; lia)) | exact bi_strip (by first | assumption | lia | (simp; done) | (simp; lia)) | exact bi_count | exact bi_expandtabs (by first | assumption | lia | (simp; done) | (simp; lia)) (by first | assumption | lia | (simp; done) | (simp; lia)) (by first | assumption | lia | (simp; done) | (simp; lia)) | exact bi_split (by first | assumption | lia | (simp; done) | (simp; lia)) | exact bi_sorted2)) (ev_bin ev_int ev_int (op_pow (by decide) (by decide))) (op_mod (by decide))) op_add) ev_int op_add) ev_int (op_mod (by decide))) (by repeat first | exact SetAt.head | apply SetAt.tail) (ex_nil ⟨[], _, rfl, .keep (.eq ?_ (.drop .nil)), rfl, rfl⟩)
      rw [foldl_take _ _ _ hi, hg]
    · obtain ⟨rfl, rfl⟩ := hJ
      rw [List.take_length]
      refine ex_return_addl (a := ((L.filter big).map low60).map PV.int) (b := [.int (L.foldl mixS 7)]) (ev_conv (ev_comp (n := L.length) (item := fun i => .int (L.getD i 0)) (gl' := [ks "abs"]) (cl' := []) (clo := []) (fun _ => []) (fun j => (((L.take j).filter big).map low60).map PV.int) ⟨rfl, by decide, rfl, by decide, rfl, by decide, fun _ h => nomatch h⟩ (src (by repeat first | exact GetAt.head | apply GetAt.tail)) (by simp) (fun i _ => ?_) (fun _ => rfl) (fun i hi X' eA eS z1 z2 => ?_)) (by rw [List.take_length])) (ev_list (el_cons (ev_local (by repeat first | exact GetAt.head | apply GetAt.tail)) el_nil) (by simp)) ?_ fun d => ⟨d, rfl, ?_⟩
      · have := List.length_filter_le big (L.take i)
        rw [List.length_take] at this
        simp only [List.length_map]; lia
      · have hg : L.getD i 0 = L[i] := by simp [hi]
        refine ⟨big (L.getD i 0), .inr ⟨_, rfl, ?_⟩, ?_⟩
        · exact et_cmp (ev_callB (ev_builtin (by repeat first | exact List.Mem.head _ | apply List.Mem.tail) K.g_abs rfl (by decide)) (el_cons (ev_local (by repeat first | exact GetAt.head | apply GetAt.tail)) el_nil) bi_abs) (ev_bin ev_int ev_int (op_pow (by decide) (by decide))) cp_ge
        · cases hb : big (L.getD i 0)
          · refine .inl ⟨rfl, rfl, ?_⟩
            rw [hg] at hb
            show (((L.take (i + 1)).filter big).map low60).map PV.int = _
            rw [← List.take_append_getElem hi, List.filter_append]; simp [hb]
          · refine .inr ⟨rfl, .int (low60 (L.getD i 0)), ?_, ?_⟩
            · rw [hg] at hb ⊢
              show (((L.take (i + 1)).filter big).map low60).map PV.int = _
              rw [← List.take_append_getElem hi, List.filter_append]; simp [hb]
            · exact ev_bin (ev_callB (ev_builtin (by repeat first | exact List.Mem.head _ | apply List.Mem.tail) K.g_abs rfl (by decide)) (el_cons (ev_local (by repeat first | exact GetAt.head | apply GetAt.tail)) el_nil) bi_abs) (ev_bin ev_int ev_int (op_pow (by decide) (by decide))) (op_mod (by decide))
      · have := List.length_filter_le big L
        simp only [List.length_map, List.length_cons, List.length_nil]; lia
      · unfold dkOf; rw [hL, List.map_append]; rfl
/-! some codes -/
noncomputable def draws (sg : List Nat) : Nat → List Int → List Nat × List Int
  | 0, ns => ([], ns)
  | k + 1, ns => ((draws sg k ns).1 ++ [sg.getD (draw (draws sg k ns).2 sg.length).1.toNat 0], (draw (draws sg k ns).2 sg.length).2)
theorem draws_ok {sg : List Nat} (hs : 0 < sg.length) {ns : List Int} (h : DeckOk ns) : ∀ k, DeckOk (draws sg k ns).2 ∧ (draws sg k ns).1.length = k ∧ ∀ n ∈ (draws sg k ns).1, n ∈ sg
  | 0 => ⟨h, rfl, fun _ h => nomatch h⟩
  | k + 1 => by
    obtain ⟨h1, h2, h3⟩ := draws_ok hs h k
    obtain ⟨d1, d2, d3⟩ := draw_ok h1 (m := (sg.length : Nat)) (by lia)
    refine ⟨d3, by show ((draws sg k ns).1 ++ [_]).length = _; simp [h2], fun n hn => ?_⟩
    have hn : n ∈ (draws sg k ns).1 ++ [sg.getD (draw (draws sg k ns).2 sg.length).1.toNat 0] := hn
    rcases List.mem_append.mp hn with hn | hn
    · exact h3 n hn
    · have : n = sg.getD (draw (draws sg k ns).2 sg.length).1.toNat 0 := by simpa using hn
      subst this
      have hlt : (draw (draws sg k ns).2 sg.length).1.toNat < sg.length := by lia
      simp only [List.getD, List.getElem?_eq_getElem hlt, Option.getD_some]
      exact List.getElem_mem _
noncomputable def someC (sg : List Nat) (ns : List Int) (most : Int) : List Nat × List Int := draws sg (draw ns (most + 1)).1.toNat (draw ns (most + 1)).2
theorem someC_ok {sg : List Nat} (hs : 0 < sg.length) {ns : List Int} (h : DeckOk ns) {most : Int} (hm : 0 ≤ most) : DeckOk (someC sg ns most).2 ∧ (someC sg ns most).1.length ≤ most.toNat ∧ ∀ n ∈ (someC sg ns most).1, n ∈ sg := by
  obtain ⟨d1, d2, d3⟩ := draw_ok h (m := most + 1) (by lia)
  obtain ⟨h1, h2, h3⟩ := draws_ok hs d3 (draw ns (most + 1)).1.toNat
  refine ⟨h1, ?_, h3⟩
  show (draws sg (draw ns (most + 1)).1.toNat (draw ns (most + 1)).2).1.length ≤ _
  rw [h2]; lia
theorem KOk.f_some_codes (K : KOk c) (a : Addr) (ns : List Int) {sg : List Nat} {most : Int} (h : DeckOk ns) (hs : 0 < sg.length ∧ sg.length < 1000) (hm : 0 ≤ most ∧ most < 900) :
    FnM c 3 (.ref 264) [.raw (.ref a), .str sg, .int most] [(a, iL ns)] (.list ((someC sg ns most).1.map fun n : Nat => .int n)) [(a, iL (someC sg ns most).2)] :=
  fn_of_cells K.some_codes fun L X hn hcl hW => by
    obtain ⟨d1, d2, d3⟩ := draw_ok h (m := most + 1) (by lia)
    refine ex_return (p := .list ((someC sg ns most).1.map fun n : Nat => .int n)) (cs1 := [(L, .var (some (.raw (.ref a)))), (L + 1, .var (some (.str sg))), (a, iL (someC sg ns most).2)]) ?_ ⟨rfl, _, _, rfl⟩
    refine ev_comp (n := (draw ns (most + 1)).1.toNat) (item := fun i => .int i) (gl' := [ks "ord", ks "_law_one"]) (cl' := [(ks "_law_deck", L), (ks "_law_signs", L + 1)]) (clo := [(ks "_law_signs", L + 1), (ks "_law_deck", L)])
      (fun i => [(L, .var (some (.raw (.ref a)))), (L + 1, .var (some (.str sg))), (a, iL (draws sg i (draw ns (most + 1)).2).2)]) (fun i => (draws sg i (draw ns (most + 1)).2).1.map fun n : Nat => .int n)
      ⟨by unfold closureFor cellOf; rw [hcl]; rfl, by decide, rfl, by decide, rfl, by decide, fun y hy => by
        simp only [List.mem_cons, List.not_mem_nil, or_false] at hy
        rcases hy with rfl | rfl <;> exact ⟨rfl, rfl⟩⟩ ?_ rfl (fun i hi => ?_) (fun i => rfl) (fun i hi X' eA eS z1 z2 => ?_)
    · refine (src_range1 (ev_builtin (by repeat first | exact List.Mem.head _ | apply List.Mem.tail) K.g_range rfl (by decide)) (el_cons (ev_callC (a := a) (u := iL ns) (y := iL (draw ns (most + 1)).2) (ev_globalR (by repeat first | exact List.Mem.head _ | apply List.Mem.tail) K.g_law_draw) K.d_law_draw.isFn (el_cons (ev_cell (by repeat first | exact List.Mem.head _ | apply List.Mem.tail) (by repeat first | exact List.Mem.head _ | apply List.Mem.tail)) (el_cons (ev_bin (ev_local (by repeat first | exact GetAt.head | apply GetAt.tail)) ev_int op_add) el_nil)) (K.f_draw a ns h (by lia)) (by decide) (by repeat first | exact CsSet.head | apply CsSet.tail)) el_nil) (by lia))
    · show (List.map _ _).length ≤ _
      rw [List.length_map, (draws_ok hs.1 d3 i).2.1]; lia
    · obtain ⟨h1, h2, h3⟩ := draws_ok hs.1 d3 i
      obtain ⟨e1, e2, e3⟩ := draw_ok h1 (m := (sg.length : Nat)) (by lia)
      refine ⟨true, .inl ⟨rfl, rfl⟩, .inr ⟨rfl, .int (sg.getD (draw (draws sg i (draw ns (most + 1)).2).2 sg.length).1.toNat 0 : Nat), ?_, ?_⟩⟩
      · show List.map _ ((draws sg i (draw ns (most + 1)).2).1 ++ [_]) = _
        rw [List.map_append]; rfl
      · have hlt : (draw (draws sg i (draw ns (most + 1)).2).2 sg.length).1.toNat < sg.length := by lia
        exact ev_callB (ev_builtin (by repeat first | exact List.Mem.head _ | apply List.Mem.tail) K.g_ord rfl (by decide)) (el_cons (ev_callC (a := a) (u := iL (draws sg i (draw ns (most + 1)).2).2) (ev_globalR (by repeat first | exact List.Mem.head _ | apply List.Mem.tail) K.g_law_one) K.d_law_one.isFn (el_cons (ev_cell (by repeat first | exact List.Mem.head _ | apply List.Mem.tail) (by repeat first | exact List.Mem.head _ | apply List.Mem.tail)) (el_cons (ev_cell (by repeat first | exact List.Mem.head _ | apply List.Mem.tail) (by repeat first | exact List.Mem.head _ | apply List.Mem.tail)) el_nil)) (K.f_one a _ h1 hs (by simp [hlt])) (by decide) (by repeat first | exact CsSet.head | apply CsSet.tail)) el_nil) bi_ord
end Mine

end
section
open PySem PySem.W PyProof.Rows
namespace Mine
open PySem PySem.Calls PySem.W PyProof.Rows PySem.Builtin.Str
variable {c : Cx}
set_option maxRecDepth 100000
set_option maxHeartbeats 4000000
/-- the lines that begin in a region, turned -/
noncomputable def trL (lo hi : Nat) (g : List Nat → List Nat) : Nat → List (List Nat) → List (List Nat)
  | _, [] => []
  | a, x :: r => (if lo ≤ a ∧ a < hi then g x else x) :: trL lo hi g (a + x.length + 1) r
noncomputable def trn (t : List Nat) (lo hi : Nat) (g : List Nat → List Nat) : List Nat := unl (trL lo hi g 0 (spl t))
noncomputable def offs (L : List (List Nat)) (i : Nat) : Nat := ((L.take i).map fun x => x.length + 1).sum
theorem trL_length (lo hi : Nat) (g : List Nat → List Nat) : ∀ (a : Nat) (L : List (List Nat)), (trL lo hi g a L).length = L.length
  | _, [] => rfl
  | a, x :: r => by unfold trL; rw [List.length_cons, List.length_cons, trL_length lo hi g _ r]
theorem trL_get (lo hi : Nat) (g : List Nat → List Nat) : ∀ (a : Nat) (L : List (List Nat)) (i : Nat) (x : List Nat), L[i]? = some x → (trL lo hi g a L)[i]? = some (if lo ≤ a + offs L i ∧ a + offs L i < hi then g x else x)
  | _, [], i, x, h => by simp at h
  | a, y :: r, 0, x, h => by
    have : y = x := by simpa using h
    subst this
    unfold trL
    simp [offs]
  | a, y :: r, i + 1, x, h => by
    have ih := trL_get lo hi g (a + y.length + 1) r i x (by simpa using h)
    unfold trL
    rw [List.getElem?_cons_succ, ih]
    have e : a + offs (y :: r) (i + 1) = a + y.length + 1 + offs r i := by unfold offs; simp; lia
    rw [e]
theorem offs_succ (L : List (List Nat)) (i : Nat) {x : List Nat} (h : L[i]? = some x) : offs L (i + 1) = offs L i + x.length + 1 := by
  obtain ⟨hi, e⟩ := List.getElem?_eq_some_iff.mp h
  unfold offs
  rw [← List.take_append_getElem hi, e]; simp; lia
theorem offs_le (L : List (List Nat)) (i : Nat) : offs L i ≤ (L.map fun x => x.length + 1).sum := by
  unfold offs
  conv => rhs; rw [← List.take_append_drop i L]
  rw [List.map_append, List.sum_append]; lia
theorem spl_sum : ∀ t : List Nat, ((spl t).map fun x => x.length + 1).sum = t.length + 1
  | [] => rfl
  | n :: r => by
    have ih := spl_sum r
    unfold spl
    split
    · rw [List.map_cons, List.sum_cons, ih]; simp; lia
    · have := spl_ne r
      revert ih this
      cases spl r with
      | nil => intro _ h; exact absurd rfl h
      | cons y ys => intro ih _; simp at ih ⊢; lia
theorem le_sum_mem {n : Nat} : ∀ l : List Nat, n ∈ l → n ≤ l.sum
  | a :: r, h => by
    rw [List.sum_cons]
    rcases List.mem_cons.mp h with rfl | h
    · lia
    · have := le_sum_mem r h; lia
noncomputable def ChangeOk (c : Cx) (j : Nat) (fa : Addr) (t : List Nat) (g : List Nat → List Nat) (F : Fz) : Prop :=
  (∃ o fd, F fa = some o ∧ o.data = .func fd) ∧ ∀ x ∈ spl t, FnQ c j (.ref fa) (fun G => F.le G) [.str x] (.str (g x))
theorem KOk.f_turned (K : KOk c) {fa : Addr} {t : List Nat} {lo hi : Nat} {g : List Nat → List Nat} {j : Nat} (ht : t.length ≤ 1000) (hb : ((trL lo hi g 0 (spl t)).map (·.length)).sum + (trL lo hi g 0 (spl t)).length ≤ 1048576) :
    FnQ c (j + 1) (.ref 297) (ChangeOk c j fa t g) [.str t, .int lo, .int hi, .raw (.ref fa)] (.str (trn t lo hi g)) :=
  fq_of_body K.d_law_turned rfl fun X hW hQ => by
    have hsum := spl_sum t
    have hlen := spl_length t
    have hun : ∀ x ∈ spl t, x.length ≤ t.length := fun x hx => by
      have h1 : x.length + 1 ≤ ((spl t).map fun x => x.length + 1).sum := le_sum_mem _ (List.mem_map.mpr ⟨x, hx, rfl⟩)
      lia
    refine ex_unpack_new (vs1 := [some (.str t), some (.int lo), some (.int hi), some (.raw (.ref fa)), none, some (.int 0), none]) (vs2 := fun a => [some (.str t), some (.int lo), some (.int hi), some (.raw (.ref fa)), some (.raw (.ref a)), some (.int 0), none]) (fun _ => ev_int) (by repeat first | exact SetAt.head | apply SetAt.tail) (fun a => by (repeat first | exact SetAt.head | apply SetAt.tail)) (fun d => ?_) rfl rfl (swap2 X (by simp) (by simp) (by decide) rfl rfl rfl rfl)
    have hsl : ((spl t).map PV.str).length = (spl t).length := by simp
    generalize hL : spl t = L at *
    refine ex_for (fun i vs cs => vs = [some (.str t), some (.int lo), some (.int hi), some (.raw (.ref fa)), some (.raw (.ref d)), some (.int (offs L i : Nat)), none] ∧ cs = [(d, .lst (((trL lo hi g 0 L).take i).map PV.str))])
      (n := L.length) (item := fun i => .str (L.getD i [])) (by rw [← hsl]; exact (src_list (ev_conv (ev_smeth PySem.F.slot_str_split PySem.F.type_str_split (ev_local (by repeat first | exact GetAt.head | apply GetAt.tail)) (el_cons (ev_str (l := [10]) rfl) el_nil) (by first | exact bi_len_list (by first | assumption | lia | (simp; done) | (simp; lia)) | exact bi_len_str (by first | assumption | lia | (simp; done) | (simp; lia)) | exact bi_abs | exact bi_max | exact bi_min | exact bi_chr (by first | assumption | lia | (simp; done) | (simp; lia)) (by first | assumption | lia | (simp; done) | (simp; lia)) | exact bi_ord | exact bi_lstrip (by first | assumption | lia | (simp; done) | (simp; lia)) | exact bi_rstrip (by first | assumption | lia | (simp; done) | (simp; lia)) | exact bi_strip (by first | assumption | lia | (simp; done) | (simp; lia)) | exact bi_count | exact bi_expandtabs (by first | assumption | lia | (simp; done) | (simp; lia)) (by first | assumption | lia | (simp; done) | (simp; lia)) (by first | assumption | lia | (simp; done) | (simp; lia)) | exact bi_split (by first | assumption | lia | (simp; done) | (simp; lia)) | exact bi_sorted2)) (by rw [hL]))).conv fun i hi => by rw [hsl] at hi; simp [List.getD, hi]) ⟨by simp [offs], by simp⟩ (fun i vs cs hil hJ => ?_) (fun vs cs hJ => ?_)
    · obtain ⟨rfl, rfl⟩ := hJ
      have hg : L.getD i [] = L[i] := by simp [hil]
      have hLi : L[i]? = some L[i] := List.getElem?_eq_getElem hil
      have hx := hun L[i] (List.getElem_mem hil)
      have ho := offs_le L (i + 1)
      have hos := offs_succ L i hLi
      have hti := trL_get lo hi g 0 L i L[i] hLi
      rw [Nat.zero_add] at hti
      simp only [hg]
      refine ⟨_, by (repeat first | exact SetAt.head | apply SetAt.tail), fun z => ?_⟩
      refine ex_expr (ev_append (l := ((trL lo hi g 0 L).take i).map PV.str) (a := d) (ev_local (by repeat first | exact GetAt.head | apply GetAt.tail)) (by repeat first | exact List.Mem.head _ | apply List.Mem.tail) (ev_if (p := .str (if lo ≤ offs L i ∧ offs L i < hi then g L[i] else L[i])) (et_cmp2 (ev_local (by repeat first | exact GetAt.head | apply GetAt.tail)) (ev_local (by repeat first | exact GetAt.head | apply GetAt.tail)) (by first | exact cp_lt | exact cp_le | exact cp_gt | exact cp_ge | exact cp_eq | exact cp_ne | exact cp_eqs | exact cp_nes | exact cp_eqb | exact cp_in_tup | exact cp_notin_tup | exact cp_in_str | exact cp_notin_str) (fun hc => (ev_local (by repeat first | exact GetAt.head | apply GetAt.tail))) (by first | exact cp_lt | exact cp_le | exact cp_gt | exact cp_ge | exact cp_eq | exact cp_ne | exact cp_eqs | exact cp_nes | exact cp_eqb | exact cp_in_tup | exact cp_notin_tup | exact cp_in_str | exact cp_notin_str)) (fun hT => ev_conv (ev_callV (ev_local (by repeat first | exact GetAt.head | apply GetAt.tail)) hQ.1 (el_cons (ev_local (by repeat first | exact GetAt.head | apply GetAt.tail)) el_nil) (hQ.2 L[i] (by rw [hL]; exact List.getElem_mem hil)) (by lia) (fun F h => h)) (by rw [if_pos (by simp at hT; lia)])) (fun hF => ev_conv (ev_local (by repeat first | exact GetAt.head | apply GetAt.tail)) (by rw [if_neg (by simp at hF; lia)]))) (by repeat first | exact CsSet.head | apply CsSet.tail) (by simp; lia)) ?_
      refine ex_assign (ev_bin (ev_bin (ev_local (by repeat first | exact GetAt.head | apply GetAt.tail)) (ev_callB (ev_builtin (by repeat first | exact List.Mem.head _ | apply List.Mem.tail) K.g_len rfl (by decide)) (el_cons (ev_local (by repeat first | exact GetAt.head | apply GetAt.tail)) el_nil) (by first | exact bi_len_list (by first | assumption | lia | (simp; done) | (simp; lia)) | exact bi_len_str (by first | assumption | lia | (simp; done) | (simp; lia)) | exact bi_abs | exact bi_max | exact bi_min | exact bi_chr (by first | assumption | lia | (simp; done) | (simp; lia)) (by first | assumption | lia | (simp; done) | (simp; lia)) | exact bi_ord | exact bi_lstrip (by first | assumption | lia | (simp; done) | (simp; lia)) | exact bi_rstrip (by first | assumption | lia | (simp; done) | (simp; lia)) | exact bi_strip (by first | assumption | lia | (simp; done) | (simp; lia)) | exact bi_count | exact bi_expandtabs (by first | assumption | lia | (simp; done) | (simp; lia)) (by first | assumption | lia | (simp; done) | (simp; lia)) (by first | assumption | lia | (simp; done) | (simp; lia)) | exact bi_split (by first | assumption | lia | (simp; done) | (simp; lia)) | exact bi_sorted2)) (by first | exact op_add | exact op_sub | exact op_mod (by first | assumption | lia | (simp; done) | (simp; lia)) | exact op_div (by first | assumption | lia | (simp; done) | (simp; lia)) (PyProof.noPylong_small (by lia)) | exact op_mul (mul_okR (by lia)) | exact op_mul (mul_okL (by lia)) | exact op_adds (by first | assumption | lia | (simp; done) | (simp; lia)) | exact op_addl (by first | assumption | lia | (simp; done) | (simp; lia)) | exact op_muls (by first | assumption | lia | (simp; done) | (simp; lia)) (by first | assumption | lia | (simp; done) | (simp; lia)) | exact op_mull (by first | assumption | lia | (simp; done) | (simp; lia)) (by first | assumption | lia | (simp; done) | (simp; lia)) (by first | assumption | lia | (simp; done) | (simp; lia)))) ev_int (by first | exact op_add | exact op_sub | exact op_mod (by first | assumption | lia | (simp; done) | (simp; lia)) | exact op_div (by first | assumption | lia | (simp; done) | (simp; lia)) (PyProof.noPylong_small (by lia)) | exact op_mul (mul_okR (by lia)) | exact op_mul (mul_okL (by lia)) | exact op_adds (by first | assumption | lia | (simp; done) | (simp; lia)) | exact op_addl (by first | assumption | lia | (simp; done) | (simp; lia)) | exact op_muls (by first | assumption | lia | (simp; done) | (simp; lia)) (by first | assumption | lia | (simp; done) | (simp; lia)) | exact op_mull (by first | assumption | lia | (simp; done) | (simp; lia)) (by first | assumption | lia | (simp; done) | (simp; lia)) (by first | assumption | lia | (simp; done) | (simp; lia)))) (by repeat first | exact SetAt.head | apply SetAt.tail) (ex_nil ⟨_, _, rfl, .keep (.keep (.keep (.keep (.keep (.eq ?_ (.drop .nil)))))), rfl, ?_⟩)
      · rw [hos]; push_cast; rfl
      · have hlt : i < (trL lo hi g 0 L).length := by rw [trL_length]; exact hil
        have e : (trL lo hi g 0 L)[i] = (if lo ≤ offs L i ∧ offs L i < hi then g L[i] else L[i]) := by
          have := List.getElem?_eq_getElem hlt
          rw [hti] at this
          exact (Option.some.inj this).symm
        rw [← List.take_append_getElem hlt, e, List.map_append]; rfl
    · obtain ⟨rfl, rfl⟩ := hJ
      have e : (trL lo hi g 0 L).take L.length = trL lo hi g 0 L := by rw [← trL_length lo hi g 0 L, List.take_length]
      rw [e]
      have h1 : BiR X "str.join" [.str [10], .list ((trL lo hi g 0 L).map PV.str)] (.str (unl (trL lo hi g 0 L))) := bi_join (by decide) hb (lines_join _)
      have e2 : unl (trL lo hi g 0 L) = trn t lo hi g := by unfold trn; rw [hL]
      rw [e2] at h1
      refine ex_return (p := .str (trn t lo hi g)) (cs1 := []) ?_ rfl
      refine ev_smeth (l := [10]) (ps := [.list ((trL lo hi g 0 L).map PV.str)]) PySem.F.slot_str_join PySem.F.type_str_join (ev_str rfl) (el_cons (ev_frz (a := d) (ev_local (by repeat first | exact GetAt.head | apply GetAt.tail)) (hW d)) el_nil) h1
end Mine

end
section
open PySem PySem.W PyProof.Rows
namespace Mine
open PySem PySem.Calls PySem.W PyProof.Rows PySem.Builtin.Str
variable {c : Cx}
set_option maxRecDepth 100000
set_option maxHeartbeats 4000000
theorem swaps_comp {k : Nat} {nk gl : List Str} {cl : List (Str × Addr)} (X : Fx c k nk gl cl) {elt : Expr} {gens : List Comprehension} {scope : Scope} {pos py : Pos} {y : Str} {line : Nat} (hy : y ∈ nk) (hl : (py.line == pos.line) = true)
    (hn : (scope.names.any fun (n, k) => n == y && (k == .local || k == .cell)) = false) : swapsWith (.ListComp elt gens scope pos) (some (.Name y py)) line X.env = pure true := by
  have hb : X.env.blockKind = .function := by unfold Env.blockKind; rw [X.kind]; rfl
  have h1 := X.loc y hy
  show (pure (X.env.blockKind == .function && X.env.kindOf y == some .local && py.line == pos.line && !(scope.names.any fun (n, k) => n == y && (k == .local || k == .cell))) : Sem Bool) = pure true
  rw [hb, h1, hn, hl]; rfl
noncomputable def whl (p : Nat → Bool) : Nat → Nat → Nat
  | 0, i => i
  | k + 1, i => if p i then whl p k (i + 1) else i
theorem whl_step {p : Nat → Bool} {n i : Nat} (h : i < n) (hp : p i = true) : whl p (n - i) i = whl p (n - (i + 1)) (i + 1) := by
  rw [show n - i = (n - (i + 1)) + 1 by lia, whl, if_pos hp]
theorem whl_stop {p : Nat → Bool} {n i : Nat} (h : i < n → p i = false) : whl p (n - i) i = i := by
  by_cases hi : i < n
  · rw [show n - i = (n - (i + 1)) + 1 by lia, whl, h hi, if_neg (by decide)]
  · rw [show n - i = 0 by lia]; rfl
theorem whl_le {p : Nat → Bool} : ∀ (k i : Nat), i ≤ whl p k i ∧ whl p k i ≤ i + k
  | 0, i => ⟨Nat.le_refl _, Nat.le_refl _⟩
  | k + 1, i => by
    have := whl_le (p := p) k (i + 1)
    unfold whl
    split <;> lia
noncomputable def blAt (x : List Nat) (j : Nat) : Bool := [32, 9].contains (x.getD j 0)
noncomputable def ls1 (x : List Nat) (col : Int) (w : Nat) : Nat := whl (fun j => decide (colOf w (x.take j) < col)) (x.length - 0) 0
noncomputable def ls2 (x : List Nat) (col : Int) (w : Nat) : Nat := if col < colOf w (x.take (ls1 x col w)) then ls1 x col w - 1 else ls1 x col w
noncomputable def ls3 (x : List Nat) (col : Int) (w : Nat) : Nat := whl (fun j => !blAt x j) (x.length - ls2 x col w) (ls2 x col w)
noncomputable def ls4 (x : List Nat) (col : Int) (w : Nat) : Nat := whl (blAt x) (x.length - ls3 x col w) (ls3 x col w)
noncomputable def lrel (L : List (List Nat)) (own : Nat) (col : Int) (w : Nat) : Int := match ((L.take own).filter fun x => !decide (x = [])).getLast? with
  | none => -1
  | some x => if colOf w (x.take (ls1 x col w)) < col then -1 else if ls4 x col w = x.length then -1 else colOf w (x.take (ls4 x col w))
theorem KOk.f_relative (K : KOk c) {L : List (List Nat)} {own : Nat} {col : Int} {w : Nat} (hw : 0 < w ∧ w ≤ 300) (hL : L.length ≤ 1000) (hown : own ≤ 100000) (hx : ∀ x ∈ L, x.length ≤ 1000 ∧ Low x) (h0 : 0 ≤ col) :
    FnP c 9 (.ref 302) [.list (L.map PV.str), .int own, .int col, .int w] (.int (lrel L own col w)) :=
  fp_of_body K.d_law_relative rfl fun X => by
    have hcut : cut (L.map PV.str) none (some (own : Int)) = (L.take own).map PV.str := by rw [cut_take _ (by lia), List.map_take]; congr 1
    have hln : (L.take own).length ≤ 1000 := by rw [List.length_take]; lia
    have hxo : ∀ x ∈ L.take own, x.length ≤ 1000 ∧ Low x := fun x h => hx x (List.mem_of_mem_take h)
    unfold lrel
    generalize hM : L.take own = M at *
    have hlm : (M.map PV.str).length = M.length := by simp
    refine ex_assign_comp (n := M.length) (item := fun i => .str (M.getD i [])) (gl' := []) (cl' := []) (clo := []) (fun _ => []) (fun i => ((M.take i).filter fun x => !decide (x = [])).map PV.str) ⟨rfl, by decide, rfl, by decide, rfl, by decide, fun _ h => nomatch h⟩
      (by rw [← hlm]; exact (src_list (ev_conv (ev_cut_list (ev_local (by repeat first | exact GetAt.head | apply GetAt.tail)) eo_none (eo_some (ev_local (by repeat first | exact GetAt.head | apply GetAt.tail))) (by simp; lia)) (by rw [hcut]))).conv fun i hi => by rw [hlm] at hi; simp [List.getD, hi]) rfl (fun i _ => ?_) (fun _ => rfl) (fun i hi X' eA eS z1 z2 => ?_) (by repeat first | exact SetAt.head | apply SetAt.tail) ?_ (swaps_comp X (by simp) rfl (by decide))
    · have := List.length_filter_le (fun x => !decide (x = [])) (M.take i)
      rw [List.length_take] at this
      rw [List.length_map]; lia
    · refine ⟨!decide (M.getD i [] = []), .inr ⟨_, rfl, et_cmp (ev_local (by repeat first | exact GetAt.head | apply GetAt.tail)) (ev_str (l := []) rfl) cp_nes⟩, ?_⟩
      have hg : M.getD i [] = M[i] := by simp [hi]
      cases hb : (!decide (M.getD i [] = []))
      · refine .inl ⟨rfl, rfl, ?_⟩
        rw [hg] at hb
        show ((M.take (i + 1)).filter _).map PV.str = _
        rw [← List.take_append_getElem hi, List.filter_append]; simp [hb]
      · refine .inr ⟨rfl, .str (M.getD i []), ?_, ev_local (by repeat first | exact GetAt.head | apply GetAt.tail)⟩
        rw [hg] at hb ⊢
        show ((M.take (i + 1)).filter _).map PV.str = _
        rw [← List.take_append_getElem hi, List.filter_append]; simp [hb]
    rw [List.take_length]
    have hfm : ∀ x ∈ M.filter fun x => !decide (x = []), x.length ≤ 1000 ∧ Low x := fun x h => hxo x (List.mem_filter.mp h).1
    generalize hA : (M.filter fun x => !decide (x = [])) = A at *
    refine ex_if (et_cmp (ev_local (by repeat first | exact GetAt.head | apply GetAt.tail)) (ev_list el_nil (by simp)) (cp_eql (b := []) (by lia) (fun x h => (hfm x h).2) (fun _ h => nomatch h))) (fun hb => ?_) (fun hb => ?_)
    · have : A = [] := of_decide_eq_true hb
      rw [this]
      exact ex_return (ev_neg ev_int) ⟨rfl, rfl⟩
    have hne : A ≠ [] := of_decide_eq_false hb
    obtain ⟨x, hlast⟩ : ∃ x, A.getLast? = some x := ⟨_, List.getLast?_eq_some_getLast hne⟩
    rw [hlast]
    dsimp only
    have hxl := (hfm x (List.mem_of_getLast? hlast)).1
    have hAl : A.length ≤ 1000 := by rw [← hA]; exact Nat.le_trans (List.length_filter_le _ _) hln
    refine ex_unpack2 (p := .str x) (q := .int 0) (ev_tuple (el_cons (ev_last (ev_local (by repeat first | exact GetAt.head | apply GetAt.tail)) (ev_neg ev_int) (by simp; lia) (by rw [List.getLast?_map, hlast]; rfl)) (el_cons ev_int el_nil)) (by simp)) (by repeat first | exact SetAt.head | apply SetAt.tail) (by repeat first | exact SetAt.head | apply SetAt.tail) ?_ rfl (swap2 X (by simp) (by simp) (by decide) rfl rfl rfl rfl)
    have hn : ∀ j, (x.take j).length ≤ 50000 := fun j => by rw [List.length_take]; lia
    have hcut : ∀ j : Nat, cut x none (some (j : Int)) = x.take j := fun j => by rw [cut_take _ (by lia)]; rfl
    refine ex_while (fun j : Nat => [some (.list (L.map PV.str)), some (.int own), some (.int col), some (.int w), some (.list (A.map PV.str)), some (.str x), some (.int j)]) (fun _ => []) (fun j => j ≤ x.length ∧ whl (fun j => decide (colOf w (x.take j) < col)) (x.length - j) j = ls1 x col w) (fun j => x.length - j) 0 (fun j => decide ((j : Int) < x.length) && decide (colOf w (x.take j) < col)) (Fsub.refl _) rfl ⟨Nat.zero_le _, rfl⟩ (fun j hj => ?_) (fun j hj hb => ?_) (fun j hj hb => ?_)
    · exact (et_and (et_cmp (ev_local (by repeat first | exact GetAt.head | apply GetAt.tail)) (ev_callB (ev_builtin (by repeat first | exact List.Mem.head _ | apply List.Mem.tail) K.g_len rfl (by decide)) (el_cons (ev_local (by repeat first | exact GetAt.head | apply GetAt.tail)) el_nil) (by first | exact bi_len_list (by first | assumption | lia | (simp; done) | (simp; lia)) | exact bi_len_str (by first | assumption | lia | (simp; done) | (simp; lia)) | exact bi_abs | exact bi_max | exact bi_min | exact bi_chr (by first | assumption | lia | (simp; done) | (simp; lia)) (by first | assumption | lia | (simp; done) | (simp; lia)) | exact bi_ord | exact bi_lstrip (by first | assumption | lia | (simp; done) | (simp; lia)) | exact bi_rstrip (by first | assumption | lia | (simp; done) | (simp; lia)) | exact bi_strip (by first | assumption | lia | (simp; done) | (simp; lia)) | exact bi_count | exact bi_expandtabs (by first | assumption | lia | (simp; done) | (simp; lia)) (by first | assumption | lia | (simp; done) | (simp; lia)) (by first | assumption | lia | (simp; done) | (simp; lia)) | exact bi_split (by first | assumption | lia | (simp; done) | (simp; lia)) | exact bi_sorted2)) (by first | exact cp_lt | exact cp_le | exact cp_gt | exact cp_ge | exact cp_eq | exact cp_ne | exact cp_eqs | exact cp_nes | exact cp_eqb | exact cp_in_tup | exact cp_notin_tup | exact cp_in_str | exact cp_notin_str)) (fun hb => (et_cmp (ev_call0 (ev_globalR (by repeat first | exact List.Mem.head _ | apply List.Mem.tail) K.g_law_column_of) K.d_law_column_of.isFn (el_cons (ev_conv (ev_cut_str (ev_local (by repeat first | exact GetAt.head | apply GetAt.tail)) eo_none (eo_some (ev_local (by repeat first | exact GetAt.head | apply GetAt.tail))) (by lia)) (by rw [hcut])) (el_cons (ev_local (by repeat first | exact GetAt.head | apply GetAt.tail)) el_nil)) (K.f_column_of hw (hn j)) (by decide)) (ev_local (by repeat first | exact GetAt.head | apply GetAt.tail)) (by first | exact cp_lt | exact cp_le | exact cp_gt | exact cp_ge | exact cp_eq | exact cp_ne | exact cp_eqs | exact cp_nes | exact cp_eqb | exact cp_in_tup | exact cp_notin_tup | exact cp_in_str | exact cp_notin_str))))
    · simp only [Bool.and_eq_true, decide_eq_true_eq] at hb
      refine ex_assign (ev_bin (ev_local (by repeat first | exact GetAt.head | apply GetAt.tail)) ev_int (by first | exact op_add | exact op_sub | exact op_mod (by first | assumption | lia | (simp; done) | (simp; lia)) | exact op_div (by first | assumption | lia | (simp; done) | (simp; lia)) (PyProof.noPylong_small (by lia)) | exact op_mul (mul_okR (by lia)) | exact op_mul (mul_okL (by lia)) | exact op_adds (by first | assumption | lia | (simp; done) | (simp; lia)) | exact op_addl (by first | assumption | lia | (simp; done) | (simp; lia)) | exact op_muls (by first | assumption | lia | (simp; done) | (simp; lia)) (by first | assumption | lia | (simp; done) | (simp; lia)) | exact op_mull (by first | assumption | lia | (simp; done) | (simp; lia)) (by first | assumption | lia | (simp; done) | (simp; lia)) (by first | assumption | lia | (simp; done) | (simp; lia)))) (by repeat first | exact SetAt.head | apply SetAt.tail) (ex_nil ⟨j + 1, ⟨by lia, ?_⟩, by lia, .keep (.keep (.keep (.keep (.keep (.keep (.eq (by push_cast; rfl) .nil)))))), rfl⟩)
      rw [← hj.2, whl_step (i := j) (by lia) (decide_eq_true hb.2)]
    have e1 : j = ls1 x col w := by
      rw [← hj.2]
      refine (whl_stop fun hlt => ?_).symm
      have h1 : decide ((j : Int) < x.length) = true := decide_eq_true (by lia)
      rw [h1, Bool.true_and] at hb
      exact hb
    have hj1 := hj.1
    clear hj hb
    subst e1
    refine ex_if (et_cmp (ev_call0 (ev_globalR (by repeat first | exact List.Mem.head _ | apply List.Mem.tail) K.g_law_column_of) K.d_law_column_of.isFn (el_cons (ev_conv (ev_cut_str (ev_local (by repeat first | exact GetAt.head | apply GetAt.tail)) eo_none (eo_some (ev_local (by repeat first | exact GetAt.head | apply GetAt.tail))) (by lia)) (by rw [hcut])) (el_cons (ev_local (by repeat first | exact GetAt.head | apply GetAt.tail)) el_nil)) (K.f_column_of hw (hn _)) (by decide)) (ev_local (by repeat first | exact GetAt.head | apply GetAt.tail)) (by first | exact cp_lt | exact cp_le | exact cp_gt | exact cp_ge | exact cp_eq | exact cp_ne | exact cp_eqs | exact cp_nes | exact cp_eqb | exact cp_in_tup | exact cp_notin_tup | exact cp_in_str | exact cp_notin_str)) (fun hb => ?_) (fun hb => ?_)
    · rw [if_pos (of_decide_eq_true hb)]
      exact ex_return (ev_neg ev_int) ⟨rfl, rfl⟩
    rw [if_neg (of_decide_eq_false hb)]
    refine ex_ifj (fun vs cs => Fsub vs [some (.list (L.map PV.str)), some (.int own), some (.int col), some (.int w), some (.list (A.map PV.str)), some (.str x), some (.int (ls2 x col w : Nat))] ∧ cs = []) (et_cmp (ev_call0 (ev_globalR (by repeat first | exact List.Mem.head _ | apply List.Mem.tail) K.g_law_column_of) K.d_law_column_of.isFn (el_cons (ev_conv (ev_cut_str (ev_local (by repeat first | exact GetAt.head | apply GetAt.tail)) eo_none (eo_some (ev_local (by repeat first | exact GetAt.head | apply GetAt.tail))) (by lia)) (by rw [hcut])) (el_cons (ev_local (by repeat first | exact GetAt.head | apply GetAt.tail)) el_nil)) (K.f_column_of hw (hn _)) (by decide)) (ev_local (by repeat first | exact GetAt.head | apply GetAt.tail)) (by first | exact cp_lt | exact cp_le | exact cp_gt | exact cp_ge | exact cp_eq | exact cp_ne | exact cp_eqs | exact cp_nes | exact cp_eqb | exact cp_in_tup | exact cp_notin_tup | exact cp_in_str | exact cp_notin_str)) (fun hb2 => ?_) (fun hb2 => ?_) (fun vs cs hN => ?_)
    · have hb2 := of_decide_eq_true hb2
      have h1 : 0 < ls1 x col w := by
        apply Nat.pos_of_ne_zero; intro h0'
        rw [h0'] at hb2
        have : colOf w (x.take 0) = 0 := rfl
        lia
      refine ex_assign (ev_bin (ev_local (by repeat first | exact GetAt.head | apply GetAt.tail)) ev_int (by first | exact op_add | exact op_sub | exact op_mod (by first | assumption | lia | (simp; done) | (simp; lia)) | exact op_div (by first | assumption | lia | (simp; done) | (simp; lia)) (PyProof.noPylong_small (by lia)) | exact op_mul (mul_okR (by lia)) | exact op_mul (mul_okL (by lia)) | exact op_adds (by first | assumption | lia | (simp; done) | (simp; lia)) | exact op_addl (by first | assumption | lia | (simp; done) | (simp; lia)) | exact op_muls (by first | assumption | lia | (simp; done) | (simp; lia)) (by first | assumption | lia | (simp; done) | (simp; lia)) | exact op_mull (by first | assumption | lia | (simp; done) | (simp; lia)) (by first | assumption | lia | (simp; done) | (simp; lia)) (by first | assumption | lia | (simp; done) | (simp; lia)))) (by repeat first | exact SetAt.head | apply SetAt.tail) (ex_nil ⟨.keep (.keep (.keep (.keep (.keep (.keep (.eq (by rw [ls2, if_pos hb2]; congr 1; lia) .nil)))))), rfl⟩)
    · have hb2 := of_decide_eq_false hb2
      exact ex_nil ⟨.keep (.keep (.keep (.keep (.keep (.keep (.eq (by rw [ls2, if_neg hb2]) .nil)))))), rfl⟩
    obtain ⟨hN, rfl⟩ := hN
    refine ex_fsub hN ?_
    have hj2 : ls2 x col w ≤ x.length := by unfold ls2; split <;> lia
    have sg : ∀ {j : Nat}, j < x.length → x[(j : Int).toNat]? = some (x.getD j 0) := fun {j} h => by simp [h]
    refine ex_while (fun j : Nat => [some (.list (L.map PV.str)), some (.int own), some (.int col), some (.int w), some (.list (A.map PV.str)), some (.str x), some (.int j)]) (fun _ => []) (fun j => j ≤ x.length ∧ whl (fun j => !blAt x j) (x.length - j) j = ls3 x col w) (fun j => x.length - j) (ls2 x col w) (fun j => decide ((j : Int) < x.length) && !blAt x j) (Fsub.refl _) rfl ⟨hj2, rfl⟩ (fun j hj => ?_) (fun j hj hb => ?_) (fun j hj hb => ?_)
    · exact (et_and (et_cmp (ev_local (by repeat first | exact GetAt.head | apply GetAt.tail)) (ev_callB (ev_builtin (by repeat first | exact List.Mem.head _ | apply List.Mem.tail) K.g_len rfl (by decide)) (el_cons (ev_local (by repeat first | exact GetAt.head | apply GetAt.tail)) el_nil) (by first | exact bi_len_list (by first | assumption | lia | (simp; done) | (simp; lia)) | exact bi_len_str (by first | assumption | lia | (simp; done) | (simp; lia)) | exact bi_abs | exact bi_max | exact bi_min | exact bi_chr (by first | assumption | lia | (simp; done) | (simp; lia)) (by first | assumption | lia | (simp; done) | (simp; lia)) | exact bi_ord | exact bi_lstrip (by first | assumption | lia | (simp; done) | (simp; lia)) | exact bi_rstrip (by first | assumption | lia | (simp; done) | (simp; lia)) | exact bi_strip (by first | assumption | lia | (simp; done) | (simp; lia)) | exact bi_count | exact bi_expandtabs (by first | assumption | lia | (simp; done) | (simp; lia)) (by first | assumption | lia | (simp; done) | (simp; lia)) (by first | assumption | lia | (simp; done) | (simp; lia)) | exact bi_split (by first | assumption | lia | (simp; done) | (simp; lia)) | exact bi_sorted2)) (by first | exact cp_lt | exact cp_le | exact cp_gt | exact cp_ge | exact cp_eq | exact cp_ne | exact cp_eqs | exact cp_nes | exact cp_eqb | exact cp_in_tup | exact cp_notin_tup | exact cp_in_str | exact cp_notin_str)) (fun hb => (et_cmp (ev_sign (ev_local (by repeat first | exact GetAt.head | apply GetAt.tail)) (ev_local (by repeat first | exact GetAt.head | apply GetAt.tail)) (by lia) (by lia) (sg (by have := of_decide_eq_true hb; lia))) (ev_str (l := [32, 9]) rfl) (by first | exact cp_lt | exact cp_le | exact cp_gt | exact cp_ge | exact cp_eq | exact cp_ne | exact cp_eqs | exact cp_nes | exact cp_eqb | exact cp_in_tup | exact cp_notin_tup | exact cp_in_str | exact cp_notin_str))))
    · simp only [Bool.and_eq_true, decide_eq_true_eq] at hb
      refine ex_assign (ev_bin (ev_local (by repeat first | exact GetAt.head | apply GetAt.tail)) ev_int (by first | exact op_add | exact op_sub | exact op_mod (by first | assumption | lia | (simp; done) | (simp; lia)) | exact op_div (by first | assumption | lia | (simp; done) | (simp; lia)) (PyProof.noPylong_small (by lia)) | exact op_mul (mul_okR (by lia)) | exact op_mul (mul_okL (by lia)) | exact op_adds (by first | assumption | lia | (simp; done) | (simp; lia)) | exact op_addl (by first | assumption | lia | (simp; done) | (simp; lia)) | exact op_muls (by first | assumption | lia | (simp; done) | (simp; lia)) (by first | assumption | lia | (simp; done) | (simp; lia)) | exact op_mull (by first | assumption | lia | (simp; done) | (simp; lia)) (by first | assumption | lia | (simp; done) | (simp; lia)) (by first | assumption | lia | (simp; done) | (simp; lia)))) (by repeat first | exact SetAt.head | apply SetAt.tail) (ex_nil ⟨j + 1, ⟨by lia, ?_⟩, by lia, .keep (.keep (.keep (.keep (.keep (.keep (.eq (by push_cast; rfl) .nil)))))), rfl⟩)
      rw [← hj.2, whl_step (i := j) (by lia) hb.2]
    have e3 : j = ls3 x col w := by
      rw [← hj.2]
      refine (whl_stop fun hlt => ?_).symm
      have h1 : decide ((j : Int) < x.length) = true := decide_eq_true (by lia)
      rw [h1, Bool.true_and] at hb
      exact hb
    have hj3 := hj.1
    clear hj hb
    subst e3
    refine ex_while (fun j : Nat => [some (.list (L.map PV.str)), some (.int own), some (.int col), some (.int w), some (.list (A.map PV.str)), some (.str x), some (.int j)]) (fun _ => []) (fun j => j ≤ x.length ∧ whl (blAt x) (x.length - j) j = ls4 x col w) (fun j => x.length - j) (ls3 x col w) (fun j => decide ((j : Int) < x.length) && blAt x j) (Fsub.refl _) rfl ⟨hj3, rfl⟩ (fun j hj => ?_) (fun j hj hb => ?_) (fun j hj hb => ?_)
    · exact (et_and (et_cmp (ev_local (by repeat first | exact GetAt.head | apply GetAt.tail)) (ev_callB (ev_builtin (by repeat first | exact List.Mem.head _ | apply List.Mem.tail) K.g_len rfl (by decide)) (el_cons (ev_local (by repeat first | exact GetAt.head | apply GetAt.tail)) el_nil) (by first | exact bi_len_list (by first | assumption | lia | (simp; done) | (simp; lia)) | exact bi_len_str (by first | assumption | lia | (simp; done) | (simp; lia)) | exact bi_abs | exact bi_max | exact bi_min | exact bi_chr (by first | assumption | lia | (simp; done) | (simp; lia)) (by first | assumption | lia | (simp; done) | (simp; lia)) | exact bi_ord | exact bi_lstrip (by first | assumption | lia | (simp; done) | (simp; lia)) | exact bi_rstrip (by first | assumption | lia | (simp; done) | (simp; lia)) | exact bi_strip (by first | assumption | lia | (simp; done) | (simp; lia)) | exact bi_count | exact bi_expandtabs (by first | assumption | lia | (simp; done) | (simp; lia)) (by first | assumption | lia | (simp; done) | (simp; lia)) (by first | assumption | lia | (simp; done) | (simp; lia)) | exact bi_split (by first | assumption | lia | (simp; done) | (simp; lia)) | exact bi_sorted2)) (by first | exact cp_lt | exact cp_le | exact cp_gt | exact cp_ge | exact cp_eq | exact cp_ne | exact cp_eqs | exact cp_nes | exact cp_eqb | exact cp_in_tup | exact cp_notin_tup | exact cp_in_str | exact cp_notin_str)) (fun hb => (et_cmp (ev_sign (ev_local (by repeat first | exact GetAt.head | apply GetAt.tail)) (ev_local (by repeat first | exact GetAt.head | apply GetAt.tail)) (by lia) (by lia) (sg (by have := of_decide_eq_true hb; lia))) (ev_str (l := [32, 9]) rfl) (by first | exact cp_lt | exact cp_le | exact cp_gt | exact cp_ge | exact cp_eq | exact cp_ne | exact cp_eqs | exact cp_nes | exact cp_eqb | exact cp_in_tup | exact cp_notin_tup | exact cp_in_str | exact cp_notin_str))))
    · simp only [Bool.and_eq_true, decide_eq_true_eq] at hb
      refine ex_assign (ev_bin (ev_local (by repeat first | exact GetAt.head | apply GetAt.tail)) ev_int (by first | exact op_add | exact op_sub | exact op_mod (by first | assumption | lia | (simp; done) | (simp; lia)) | exact op_div (by first | assumption | lia | (simp; done) | (simp; lia)) (PyProof.noPylong_small (by lia)) | exact op_mul (mul_okR (by lia)) | exact op_mul (mul_okL (by lia)) | exact op_adds (by first | assumption | lia | (simp; done) | (simp; lia)) | exact op_addl (by first | assumption | lia | (simp; done) | (simp; lia)) | exact op_muls (by first | assumption | lia | (simp; done) | (simp; lia)) (by first | assumption | lia | (simp; done) | (simp; lia)) | exact op_mull (by first | assumption | lia | (simp; done) | (simp; lia)) (by first | assumption | lia | (simp; done) | (simp; lia)) (by first | assumption | lia | (simp; done) | (simp; lia)))) (by repeat first | exact SetAt.head | apply SetAt.tail) (ex_nil ⟨j + 1, ⟨by lia, ?_⟩, by lia, .keep (.keep (.keep (.keep (.keep (.keep (.eq (by push_cast; rfl) .nil)))))), rfl⟩)
      rw [← hj.2, whl_step (i := j) (by lia) hb.2]
    have e4 : j = ls4 x col w := by
      rw [← hj.2]
      refine (whl_stop fun hlt => ?_).symm
      have h1 : decide ((j : Int) < x.length) = true := decide_eq_true (by lia)
      rw [h1, Bool.true_and] at hb
      exact hb
    have hj4 := hj.1
    clear hj hb
    subst e4
    refine ex_return (ev_if (p := .int (if ls4 x col w = x.length then -1 else colOf w (x.take (ls4 x col w)))) (et_cmp (ev_local (by repeat first | exact GetAt.head | apply GetAt.tail)) (ev_callB (ev_builtin (by repeat first | exact List.Mem.head _ | apply List.Mem.tail) K.g_len rfl (by decide)) (el_cons (ev_local (by repeat first | exact GetAt.head | apply GetAt.tail)) el_nil) (by first | exact bi_len_list (by first | assumption | lia | (simp; done) | (simp; lia)) | exact bi_len_str (by first | assumption | lia | (simp; done) | (simp; lia)) | exact bi_abs | exact bi_max | exact bi_min | exact bi_chr (by first | assumption | lia | (simp; done) | (simp; lia)) (by first | assumption | lia | (simp; done) | (simp; lia)) | exact bi_ord | exact bi_lstrip (by first | assumption | lia | (simp; done) | (simp; lia)) | exact bi_rstrip (by first | assumption | lia | (simp; done) | (simp; lia)) | exact bi_strip (by first | assumption | lia | (simp; done) | (simp; lia)) | exact bi_count | exact bi_expandtabs (by first | assumption | lia | (simp; done) | (simp; lia)) (by first | assumption | lia | (simp; done) | (simp; lia)) (by first | assumption | lia | (simp; done) | (simp; lia)) | exact bi_split (by first | assumption | lia | (simp; done) | (simp; lia)) | exact bi_sorted2)) (by first | exact cp_lt | exact cp_le | exact cp_gt | exact cp_ge | exact cp_eq | exact cp_ne | exact cp_eqs | exact cp_nes | exact cp_eqb | exact cp_in_tup | exact cp_notin_tup | exact cp_in_str | exact cp_notin_str)) (fun hT => ev_conv (ev_neg ev_int) ?_) (fun hF => ev_conv (ev_call0 (ev_globalR (by repeat first | exact List.Mem.head _ | apply List.Mem.tail) K.g_law_column_of) K.d_law_column_of.isFn (el_cons (ev_conv (ev_cut_str (ev_local (by repeat first | exact GetAt.head | apply GetAt.tail)) eo_none (eo_some (ev_local (by repeat first | exact GetAt.head | apply GetAt.tail))) (by lia)) (by rw [hcut])) (el_cons (ev_local (by repeat first | exact GetAt.head | apply GetAt.tail)) el_nil)) (K.f_column_of hw (hn _)) (by decide)) ?_)) ⟨rfl, rfl⟩
    · rw [if_pos (by have := of_decide_eq_true hT; lia)]
    · rw [if_neg (by have := of_decide_eq_false hF; lia)]
end Mine

end
section
open PySem PySem.W PyProof.Rows
namespace Mine
open PySem PySem.Calls PySem.W PyProof.Rows PySem.Builtin.Str
set_option maxHeartbeats 4000000

/-! the table of the law's code places -/
noncomputable def CodeO (q : Str) (o : Obj) : Prop := ∃ vs t, o.data = .fields vs ∧ vs[1]? = some (.str q t)
noncomputable def TabInv (q : Str) (τ : Cells) : Prop := ∃ arr rest, τ = (304, .st (· = tabObj arr)) :: rest ∧ TriplesOk arr.toList ∧ ∀ pos cv, codeAmong pos arr.toList = some cv → ∃ a, cv = .ref a ∧ (a, CV.st (CodeO q)) ∈ rest
theorem codeAmong_more {pos : Pos} {a b : Int} {cv c' : Value} (l : List Value) (ht : TriplesOk l) (h : codeAmong pos (l ++ [rawInt a, rawInt b, c']) = some cv) : codeAmong pos l = some cv ∨ cv = c' := by
  fun_induction TriplesOk l with
  | case1 =>
    right
    simp only [List.nil_append, rawInt] at h
    unfold codeAmong at h
    split at h
    · exact (Option.some.inj h).symm
    · simp [codeAmong] at h
  | case2 a' t b' u x rest ih =>
    simp only [List.cons_append] at h
    unfold codeAmong at h ⊢
    split at h
    · rename_i hc; rw [if_pos hc]; exact .inl h
    · rename_i hc; rw [if_neg hc]; exact ih ht h
  | case3 l h1 h2 => exact ht.elim
section
variable {c : Cx} {k j : Nat} {nk gl gl' : List Str} {cl cl' clo : List (Str × Addr)} {X : Fx c k nk gl cl} {F : Fz} {vs vs1 vs2 vs' : List (Option PV)} {cs cs1 cs2 pre τ : Cells} {ts ts' : List (Value × PV)} {s : Shared}
  {params : Arguments} {body : Expr} {scope : Scope} {x : Str}

/-- what is asked of a lambda's own block -/
structure LamOk (X : Fx c k nk gl cl) (params : Arguments) (body : Expr) (scope : Scope) (x : Str) (gl' : List Str) (cl' clo : List (Str × Addr)) : Prop where
  clos : closureFor scope X.env = pure clo
  defs : defaultsOf params X.env = ([], [])
  bind : ∀ pm cd ct u, bindArgs (kla_fn "<lambda>" (X.env.qual ++ "<lambda>") params body scope clo pm cd ct) ⟨[u], []⟩ = pure [(x, u)]
  cell : ∀ y ∈ scope.names, y.2 ≠ .cell
  kind : scope.kind = .function
  co : scope.isCoroutine = false
  gen : scope.isGenerator = false
  loc : scope.names.lookup x = some .local
  gls : ∀ y ∈ gl', scope.names.lookup y = some .globalImplicit
  cls : ∀ y ∈ cl', scope.names.lookup y.1 = some .free ∧ clo.lookup y.1 = some y.2

/-- a lambda, called -/
theorem lam_call (ok : LamOk X params body scope x gl' cl' clo) {fa c' : Addr} {pm ctv : Value} {oc : Obj} {H : Fz} {p r : PV} (hfa : H fa = some (kla_obj "<lambda>" (X.env.qual ++ "<lambda>") params body scope clo pm c' ctv)) (hc' : H c' = some oc) (hoc : CodeO (X.env.qual ++ "<lambda>") oc)
    (hb : ∀ X2 : Fx c j [x] gl' cl', H.le X2.F0 → Ev X2 [some p] [] body r []) : FnQ c (j + 1) (.ref fa) (fun G => H.le G) [p] r := by
  intro A s F us rm cf on hi hH
  obtain ⟨u, rfl⟩ := args1 hi.length.symm
  cases hi with | cons hp _ =>
  have T := cf.top _ on
  obtain ⟨vs, t, hd, hv⟩ := hoc
  refine kla_callFunE rm.lt (on _ _ (hH _ _ hfa)) rfl ok.co ok.gen rfl ⟨c', oc, vs, t, rfl, on _ _ (hH _ _ hc'), hd, hv⟩ ?_
  rw [ok.bind]
  refine wpAny_pure (wpAny_newFunctionEnv ok.cell (fun y hy => ?_) (fun h₁ hns hsb => ⟨T.nolimit.fresh _ hsb, ?_⟩) ok.kind)
  · have : y = (x, u) := by simpa using hy
    subst this; exact ok.loc
  have hk : ∀ b o, s.heap.get? b = some o → h₁.get? b = some o := fun b o e => hsb.extBut b o (Nat.ne_of_lt (Heap.lt_size e)) (Heap.get?_push_of_some _ e)
  refine kla_codeExpr ?_
  let env2 : Env := newEnv scope s.heap.objs.size mainGlobals clo ((X.env.qual ++ "<lambda>") ++ ".<locals>.") (some fa) (.ref c') none builtinsNs
  let X2 : Fx c j [x] gl' cl' := {
    A := A.deeper env2, env := env2, s0 := s, F0 := F, W := fun _ => False
    rm := rm.deeper, cf := cf, kind := ok.kind, glob := rfl, blt := rfl, above := Nat.le_refl _, nd := by simp
    loc := fun y hy => by have : y = x := by simpa using hy
                          subst this; exact ok.loc
    gls := ok.gls, cls := fun y hy => ⟨.inr (ok.cls y hy).1, (ok.cls y hy).2⟩ }
  have i0 : Inv X2 [some p] [] [] { s with heap := h₁, toks := s.toks + 1 } := by
    refine ⟨F, ⟨⟨h₁, _, rfl⟩, fun a o e => hk a o (on a o e), Fz.le_refl _, fun a o _ n => n, fun a o e _ => hk a o e, fun a ha => ha.elim, ⟨_, hns, fun y q g => ?_⟩, ⟨?_, fun hw => hw⟩, fun z hz => (nomatch hz), .nil, fun t ht => nomatch ht⟩⟩
    · cases g with
      | head => exact ⟨u, by simp, hp⟩
      | tail g => cases g
    · cases e : F s.heap.objs.size with
      | none => exact e
      | some o' => exact absurd (Heap.lt_size (on _ _ e)) (Nat.lt_irrefl _)
  refine wpAny_mono (hb X2 hH [] _ i0) (fun v s' ⟨G, i⟩ => ?_) fun _ _ q => q.elim
  exact ⟨v, G, rfl, ⟨i.st, i.le, i.on, i.fresh, fun a o e _ => i.keep a o e fun h => h⟩, i.tmp _ (.head _)⟩

theorem csSet_app {a : Addr} {u y : CV} {rest : Cells} : ∀ pre : Cells, CsSet (pre ++ (a, u) :: rest) a u y (pre ++ (a, y) :: rest)
  | [] => .head
  | _ :: pre => .tail (csSet_app pre)
theorem InvF.perm (i : InvF X F vs cs ts s) (h : cs.Perm cs1) : InvF X F vs cs1 ts s :=
  { i with cell := fun z hz => i.cell z (h.mem_iff.mpr hz), nd := (h.map _).nodup i.nd }
/-- what the law's frame knows of its own code -/
structure CodeOk (X : Fx c k nk gl cl) : Prop where
  code : X.env.code = .ref 306
  hd : ∀ h, X.F0.on h → CodeHd h 306 304
  bm : ∃ bm o, c.mg "__builtins__" = some (.ref bm) ∧ bm ≠ builtinsNs ∧ bm ≠ mainGlobals ∧ bm ≠ 304 ∧ X.F0 bm = some o ∧ o.cls = .type "module" ∧ o.dict = some builtinsNs ∧ o.data = .plain
/-- a lambda is made -/
theorem lam_make (ok : LamOk X params body scope x gl' cl' clo) (C : CodeOk X) {lpos : Pos} (hτ : TabInv (X.env.qual ++ "<lambda>") τ) (i : InvF X F vs (pre ++ τ) ts s) :
    wpAny (model c.prog c.w) X.A (eval (.Lambda params body scope lpos) X.env) (fun v s' => ∃ fa c' ctv pm oc τ', v = .ref fa ∧ TabInv (X.env.qual ++ "<lambda>") τ' ∧ InvF X F vs (pre ++ τ') ts s' ∧
      s'.heap.get? fa = some (kla_obj "<lambda>" (X.env.qual ++ "<lambda>") params body scope clo pm c' ctv) ∧ s'.heap.get? c' = some oc ∧ CodeO (X.env.qual ++ "<lambda>") oc) (fun _ _ => False) s := by
  obtain ⟨arr, rest, rfl, htri, hco⟩ := hτ
  obtain ⟨⟨ob, hob, e0⟩, n304, _⟩ := i.cell (304, .st (· = tabObj arr)) (List.mem_append_right _ (.head _))
  have e0 : ob = tabObj arr := e0
  subst e0
  have hob : s.heap.get? 304 = some (tabObj arr) := hob
  have n304 : F 304 = none := n304
  have on0 : X.F0.on s.heap := fun a o e => i.on a o (i.le a o e)
  have hB : s.heap.BuiltinsAt c.mg 304 := by
    obtain ⟨bm, o, h1, h2, h3, h4, h5, h6⟩ := C.bm
    exact ⟨bm, o, h1, h2, h3, h4, on0 _ _ h5, h6⟩
  refine kla_eval ok.defs ?_
  cases hq : codeAmong lpos arr.toList with
  | none =>
    refine kla_makeFunction (mg := c.mg) ok.clos X.glob i.top.g C.code (C.hd _ on0) hob htri hq (by decide) hB fun c' ctv h' tk hx hge hlt hrec htb => ?_
    obtain ⟨c2, oc, vs', t, e2, hoc, hd, hv⟩ := hrec
    cases e2
    obtain ⟨n1, n2, n3, n4⟩ := i.endNew hge
    have kp : ∀ b o, b ≠ 304 → s.heap.get? b = some o → (h'.push (kla_obj "<lambda>" (X.env.qual ++ "<lambda>") params body scope clo ((c.mg "__name__").getD .none) c' ctv)).get? b = some o := fun b o nb e => Heap.get?_push_of_some _ (hx b o nb e)
    have y := i.setCell (csSet_app (u := .st (· = tabObj arr)) (y := .st (· = tabObj (arr ++ #[rawInt lpos.line, rawInt lpos.col, .ref c']))) pre) (t := tk) (Fz.le_refl _) (fun b o e => kp b o (fun q => by rw [q, n304] at e; cases e) (i.on b o e)) (fun _ _ _ n => n) kp ⟨_, Heap.get?_push_of_some _ htb, rfl⟩
    have z := y.addC (a := c') (cv := .st (CodeO (X.env.qual ++ "<lambda>"))) ⟨oc, Heap.get?_push_of_some _ hoc, vs', t, hd, hv⟩ n1 n2 n3 (by
      intro hm
      refine n4 ?_
      simp only [List.map_append, List.map_cons] at hm ⊢
      exact hm)
    have pm : ((c', CV.st (CodeO (X.env.qual ++ "<lambda>"))) :: (pre ++ (304, CV.st (· = tabObj (arr ++ #[rawInt lpos.line, rawInt lpos.col, .ref c']))) :: rest)).Perm (pre ++ (304, CV.st (· = tabObj (arr ++ #[rawInt lpos.line, rawInt lpos.col, .ref c']))) :: (c', CV.st (CodeO (X.env.qual ++ "<lambda>"))) :: rest) := by
      refine List.perm_middle.symm.trans (List.Perm.append_left pre (List.Perm.swap _ _ _))
    refine ⟨_, c', ctv, _, oc, _, rfl, ⟨_, _, rfl, ?_, fun pos cv hcv => ?_⟩, z.perm pm, Heap.get?_push_size _ rfl, Heap.get?_push_of_some _ hoc, ⟨vs', t, hd, hv⟩⟩
    · rw [Array.toList_append]; exact TriplesOk_snoc _ _ _ _ htri
    · rw [Array.toList_append] at hcv
      rcases codeAmong_more _ htri hcv with h | h
      · obtain ⟨a, h1, h2⟩ := hco pos cv h
        exact ⟨a, h1, .tail _ h2⟩
      · exact ⟨c', h, .head _⟩
  | some cv =>
    obtain ⟨c', rfl, hm⟩ := hco _ _ hq
    obtain ⟨⟨oc, hoc, hco'⟩, _⟩ := i.cell _ (List.mem_append_right pre (List.mem_cons_of_mem _ hm))
    refine kla_makeFunctionHit (mg := c.mg) ok.clos X.glob i.top.g C.code (C.hd _ on0) hob htri hq hB fun ctv h' tk hk hsz => ?_
    have kp : Keep s.heap (h'.push (kla_obj "<lambda>" (X.env.qual ++ "<lambda>") params body scope clo ((c.mg "__name__").getD .none) c' ctv)) := fun b o e => Heap.get?_push_of_some _ (hk b o e)
    exact ⟨_, c', ctv, _, oc, _, rfl, ⟨arr, rest, rfl, htri, hco⟩, i.keeps (t := tk) kp, Heap.get?_push_size _ rfl, kp _ _ hoc, hco'⟩
/-- _law_turned(text, low, high, lambda line: ..) -/
theorem ev_turned (K : KOk c) (ok : LamOk X params body scope x gl' cl' clo) (C : CodeOk X) {fe e1 e2 e3 : Expr} {lpos pos : Pos} {t : List Nat} {lo hi : Nat} {g : List Nat → List Nat} (hf : Ev X vs (pre ++ τ) fe (.raw (.ref 297)) (pre ++ τ)) (h1 : Ev X vs (pre ++ τ) e1 (.str t) (pre ++ τ)) (h2 : Ev X vs (pre ++ τ) e2 (.int lo) (pre ++ τ)) (h3 : Ev X vs (pre ++ τ) e3 (.int hi) (pre ++ τ))
    (hτ : TabInv (X.env.qual ++ "<lambda>") τ) (hj : j + 2 ≤ k) (ht : t.length ≤ 1000) (hb : ((trL lo hi g 0 (spl t)).map (·.length)).sum + (trL lo hi g 0 (spl t)).length ≤ 1048576)
    (hbody : ∀ (H : Fz) (X2 : Fx c j [x] gl' cl'), H.le X2.F0 → (∀ z ∈ pre, ∃ h : Heap, (∀ a o, h.get? a = some o → H a = some o) ∧ CellAt H h z) → ∀ l ∈ spl t, Ev X2 [some (.str l)] [] body (.str (g l)) [])
    (hst : starEach [e1, e2, e3, .Lambda params body scope lpos] X.env = [(false, eval e1 X.env), (false, eval e2 X.env), (false, eval e3 X.env), (false, eval (.Lambda params body scope lpos) X.env)] := by rfl)
    (he : eval (.Call fe [e1, e2, e3, .Lambda params body scope lpos] [] pos) X.env = (do callWith pos (← eval fe X.env) [] (backTo pos (starEach [e1, e2, e3, .Lambda params body scope lpos] X.env)) (backToKw pos (keywordEach [] X.env))) := by rfl) :
    EvX X vs (pre ++ τ) (.Call fe [e1, e2, e3, .Lambda params body scope lpos] [] pos) (.str (trn t lo hi g)) (fun cs' => ∃ τ', cs' = pre ++ τ' ∧ TabInv (X.env.qual ++ "<lambda>") τ') := fun ts s i => by
  rw [he]
  refine wpAny_bind (wm (hf ts s i) fun v s1 i1 => ?_)
  have := i1.traw; subst this
  obtain ⟨o, fd, ho, hd⟩ := K.d_law_turned.isFn.h
  have hst' : (starEach [e1, e2, e3, .Lambda params body scope lpos] X.env).any (·.1) = false := by rw [hst]; rfl
  refine callWith_function (o := o) (fd := fd) (evalArgs_of (star_none hst') ?_)
  rw [hst]
  refine spliced_cons (wm (h1 _ s1 i1.pop) fun u1 s2 i2 => spliced_cons (wm (h2 _ s2 i2) fun u2 s3 i3 => spliced_cons (wm (h3 _ s3 i3) fun u3 s4 ⟨F, i4⟩ => spliced_cons (wm (lam_make ok C hτ i4) fun u4 s5 ⟨fa, c', ctv, pm, oc, τ', hv, hτ', i5, g1, g2, g3⟩ => spliced_nil ?_))))
  subst hv
  refine ⟨⟨i5.inK _ _ ho, hd⟩, ?_⟩
  have leH : F.le (fun a => s5.heap.get? a) := fun a o e => i5.on a o e
  have arg : Iss (fun a => s5.heap.get? a) [.str t, .int lo, .int hi, .raw (.ref fa)] [u1, u2, u3, .ref fa] :=
    .cons ((i5.tmp (u1, .str t) (.tail _ (.tail _ (.head _)))).mono leH) (.cons ((i5.tmp (u2, .int lo) (.tail _ (.head _))).mono leH) (.cons ((i5.tmp (u3, .int hi) (.head _)).mono leH) (.cons .raw .nil)))
  have con := K.f_turned (j := j + 1) (fa := fa) (t := t) (lo := lo) (hi := hi) (g := g) ht hb
  refine wpAny_call (codeAny_mono (con X.A s5 (fun a => s5.heap.get? a) _ (X.rm.less (by omega)) ((X.cf.mono i5.le).mono leH) (fun a o e => e) arg ⟨⟨_, _, g1, rfl⟩, fun l hl => lam_call ok (H := fun a => s5.heap.get? a) g1 g2 g3 fun X2 hle => hbody _ X2 hle (fun z hz => ⟨s5.heap, fun a o e => e, ?_⟩) l hl⟩) fun res s' q => ?_)
  · exact ((i5.cell z (List.mem_append_left _ hz)).1).mono leH fun _ e => e
  · obtain ⟨v, G, rfl, hp, hr⟩ := q
    obtain ⟨h', tk, rfl⟩ := hp.st
    have kp : Keep s5.heap h' := fun a o e => hp.keep a o e (by simp)
    obtain ⟨tt, rfl⟩ := isStr hr
    exact ⟨_, ⟨τ', rfl, hτ'⟩, F, ((i5.keeps (t := tk) kp).sub fun _ h => .tail _ (.tail _ (.tail _ h))).push _ _ .str⟩
end
end Mine

end
section
open PySem PySem.W PyProof.Rows
namespace Mine
open PySem PySem.Calls PySem.W PyProof.Rows PySem.Builtin.Str
variable {c : Cx}
set_option maxRecDepth 100000
set_option maxHeartbeats 8000000
/-- the statements of the law's loop -/
noncomputable def lbody : List Stmt := match fbody 47 with | [_, .For _ _ b _ _, _, _] => b | _ => []
abbrev lnk : List Str := [ks "_law_deck", ks "_law_text", ks "_law_first", ks "_law_view", ks "_law_low", ks "_law_high", ks "_law_codes", ks "_law_edits", ks "_law_due", ks "_law_plain", ks "_law_step", ks "_law_line", ks "_law_wide", ks "_law_new", ks "_law_tail", ks "_law_is_run", ks "_law_size",
  ks "_law_at", ks "_law_lines", ks "_law_own", ks "_law_head", ks "_law_made", ks "_law_ahead", ks "_law_edit", ks "_law_place", ks "_law_parts", ks "_law_rest", ks "_law_begin", ks "_law_gap", ks "_law_row", ks "_law_turn", ks "script"]
abbrev lgl : List Str := [ks "_law_deck_of", ks "range", ks "_law_some_codes", ks "_law_draw", ks "TextRow", ks "sorted", ks "len", ks "rigid_edits", ks "_law_turned", ks "_law_done", ks "region_edits", ks "_law_column_of", ks "untabify_edits", ks "tabify_edits", ks "relative_column", ks "_law_relative", ks "stop_edit", ks "split_edit"]
abbrev lcl (L1 L2 L3 : Addr) : List (Str × Addr) := [(ks "_law_by", L1), (ks "_law_tabs", L2), (ks "_law_width", L3)]
abbrev LX (c : Cx) (L1 L2 L3 : Addr) := Fx c 20 lnk lgl (lcl L1 L2 L3)
structure LawX {L1 L2 L3 : Addr} (X : LX c L1 L2 L3) : Prop where
  code : CodeOk X
  cells : X.env.cells = [(ks "_law_width", L3), (ks "_law_tabs", L2), (ks "_law_by", L1)]
  k1 : X.env.kindOf (ks "_law_by") = some .cell
  k2 : X.env.kindOf (ks "_law_tabs") = some .cell
  k3 : X.env.kindOf (ks "_law_width") = some .cell
/-- what is known at the loop's head, and behind the drawing -/
noncomputable def fr0 (d : Addr) : List (Option PV) := some (.raw (.ref d)) :: List.replicate 31 none
noncomputable def fr1 (d : Addr) (t : List Nat) (f : Int) (lo hi : Nat) : List (Option PV) := some (.raw (.ref d)) :: some (.str t) :: some (.int f) :: some (vw t f) :: some (.int lo) :: some (.int hi) :: List.replicate 26 none
noncomputable def cl0 (z : Addr × CV) (d : Addr) (ns : List Int) (L1 L2 L3 : Addr) (o1 o2 o3 : Option PV) (τ : Cells) : Cells := z :: (d, iL ns) :: (L1, .var o1) :: (L2, .var o2) :: (L3, .var o3) :: τ

theorem KOk.d_law_some_codes (K : KOk c) : CellDef c 264 (ks "_law_deck") (ks "_law_signs") (ks "_law_most") [ks "range", ks "_law_draw"] (fbody 40) := K.some_codes
/-- three targets of which the last is a cell -/
theorem swap3c {k : Nat} {nk gl : List Str} {cl : List (Str × Addr)} (X : Fx c k nk gl cl) {x y w : Str} {p1 p2 p3 tpos epos : Pos} {kk kk' : Nat} {e1 e2 e3 : Expr} (hw : X.env.kindOf w = some .cell) :
    swappedStores [.Tuple [.Name x p1, .Name y p2, .Name w p3] kk tpos] (.Tuple [e1, e2, e3] kk' epos) X.env = pure none := by
  have hb : X.env.blockKind = .function := by unfold Env.blockKind; rw [X.kind]; rfl
  unfold swappedStores
  simp only [hb, hw, Expr.pos, List.head?_cons, Option.map_some, Option.getD_some, List.length_cons, List.length_nil]
  refine (if_neg (by decide)).trans ?_
  by_cases hs : ([e1, e2, e3].any fun | .Starred .. => true | _ => false) = true
  · exact if_pos hs
  · refine (if_neg hs).trans ?_
    refine if_pos ?_
    rw [Bool.or_eq_true]
    left
    have e : ∀ l : List Str, l.length ≤ 2 → (l.length != 3) = true := fun l h => by simp; lia
    refine e _ ?_
    have e' : ∀ (g : Expr → Option Str) (a1 a2 a3 : Expr), g a3 = none → (List.filterMap g [a1, a2, a3]).length ≤ 2 := by
      intro g a1 a2 a3 h
      rw [List.filterMap_cons, List.filterMap_cons, List.filterMap_cons, h]
      cases g a1 <;> cases g a2 <;> simp
    refine e' _ _ _ _ ?_
    show (if (X.env.kindOf w == some NameKind.local && _) = true then some w else none) = none
    rw [hw]; rfl
theorem AB_sg : ∀ n ∈ [97, 98, 32, 9, 32, 10], n = 97 ∨ n = 98 ∨ n = 32 ∨ n = 9 ∨ n = 10 := by simp
theorem chunkA (K : KOk c) {L1 L2 L3 : Addr} (X : LX c L1 L2 L3) (hX : LawX X) {z : Addr × CV} {d : Addr} {ns : List Int} {o1 o2 o3 : Option PV} {τ : Cells} (hns : DeckOk ns) {N : List (Option PV) → Cells → Prop} {R : PV → Cells → Prop}
    (hr : ∀ (t : List Nat) (f : Int) (w : Nat) (tabs : Bool) (lby : Int) (lo hi : Nat) (ns' : List Int), AB t → t.length ≤ 17 → (1 ≤ f ∧ f ≤ 3) → (0 < w ∧ w ≤ 8) → (-6 ≤ lby ∧ lby ≤ 6) → lo ≤ hi → hi ≤ t.length → DeckOk ns' →
      Ex X (fr1 d t f lo hi) (cl0 z d ns' L1 L2 L3 (some (.int lby)) (some (.bool tabs)) (some (.int w)) τ) (lbody.drop 4) N R) :
    Ex X (fr0 d) (cl0 z d ns L1 L2 L3 o1 o2 o3 τ) lbody N R := by
  have hsg := someC_ok (sg := [97, 98, 32, 9, 32, 10]) (by decide) hns (most := 16) (by decide)
  refine ex_assign (p := .list (((someC [97, 98, 32, 9, 32, 10] ns 16).1 ++ [98]).map fun n : Nat => .int n)) (ev_conv (ev_bin (ev_callC (ev_globalR (by repeat first | exact List.Mem.head _ | apply List.Mem.tail) K.g_law_some_codes) K.d_law_some_codes.isFn (el_cons (ev_local (by repeat first | exact GetAt.head | apply GetAt.tail)) (el_cons (ev_str (l := [97, 98, 32, 9, 32, 10]) rfl) (el_cons ev_int el_nil))) (K.f_some_codes d ns hns (by decide) (by decide)) (by decide) (by repeat first | exact CsSet.head | apply CsSet.tail)) (ev_list (el_cons ev_int el_nil) (by simp)) (by first | exact op_add | exact op_sub | exact op_mod (by first | assumption | lia | (simp; done) | (simp; lia)) | exact op_div (by first | assumption | lia | (simp; done) | (simp; lia)) (PyProof.noPylong_small (by lia)) | exact op_mul (mul_okR (by lia)) | exact op_mul (mul_okL (by lia)) | exact op_adds (by first | assumption | lia | (simp; done) | (simp; lia)) | exact op_addl (by first | assumption | lia | (simp; done) | (simp; lia)) | exact op_muls (by first | assumption | lia | (simp; done) | (simp; lia)) (by first | assumption | lia | (simp; done) | (simp; lia)) | exact op_mull (by first | assumption | lia | (simp; done) | (simp; lia)) (by first | assumption | lia | (simp; done) | (simp; lia)) (by first | assumption | lia | (simp; done) | (simp; lia)))) (by rw [List.map_append]; rfl)) (by repeat first | exact SetAt.head | apply SetAt.tail) ?_
  have hab : AB ((someC [97, 98, 32, 9, 32, 10] ns 16).1 ++ [98]) := fun n hn => (List.mem_append.mp hn).elim (fun h => AB_sg n (hsg.2.2 n h)) fun h => by simp at h; lia
  have hln : ((someC [97, 98, 32, 9, 32, 10] ns 16).1 ++ [98]).length ≤ 17 := by rw [List.length_append]; have := hsg.2.1; simp at this ⊢; lia
  have hd1 := hsg.1
  generalize (someC [97, 98, 32, 9, 32, 10] ns 16).1 ++ [98] = t at *
  generalize (someC [97, 98, 32, 9, 32, 10] ns 16).2 = ns1 at *
  have hlow : ∀ n ∈ t, n < 1000 := fun n hn => by have := hab n hn; lia
  have r1 := draw_ok hd1 (m := 3) (by decide)
  have r2 := draw_ok r1.2.2 (m := 8) (by decide)
  refine ex_unpack (ev_tuple (el_cons (ev_smeth PySem.F.slot_str_join PySem.F.type_str_join (ev_str (l := []) rfl) (el_cons (ev_chr_comp K (clo := []) ⟨rfl, by decide, rfl, by decide, rfl, by decide, fun _ h => nomatch h⟩ (ev_local (by repeat first | exact GetAt.head | apply GetAt.tail)) hlow (by lia) rfl) el_nil) (bi_join (by simp) (by rw [ones_sum, List.length_map]; lia) (chrs_join t))) (el_cons (ev_bin ev_int (ev_callC (ev_globalR (by repeat first | exact List.Mem.head _ | apply List.Mem.tail) K.g_law_draw) K.d_law_draw.isFn (el_cons (ev_local (by repeat first | exact GetAt.head | apply GetAt.tail)) (el_cons ev_int el_nil)) (K.f_draw d ns1 hd1 (by decide)) (by decide) (by repeat first | exact CsSet.head | apply CsSet.tail)) (by first | exact op_add | exact op_sub | exact op_mod (by first | assumption | lia | (simp; done) | (simp; lia)) | exact op_div (by first | assumption | lia | (simp; done) | (simp; lia)) (PyProof.noPylong_small (by lia)) | exact op_mul (mul_okR (by lia)) | exact op_mul (mul_okL (by lia)) | exact op_adds (by first | assumption | lia | (simp; done) | (simp; lia)) | exact op_addl (by first | assumption | lia | (simp; done) | (simp; lia)) | exact op_muls (by first | assumption | lia | (simp; done) | (simp; lia)) (by first | assumption | lia | (simp; done) | (simp; lia)) | exact op_mull (by first | assumption | lia | (simp; done) | (simp; lia)) (by first | assumption | lia | (simp; done) | (simp; lia)) (by first | assumption | lia | (simp; done) | (simp; lia)))) (el_cons (ev_bin ev_int (ev_callC (ev_globalR (by repeat first | exact List.Mem.head _ | apply List.Mem.tail) K.g_law_draw) K.d_law_draw.isFn (el_cons (ev_local (by repeat first | exact GetAt.head | apply GetAt.tail)) (el_cons ev_int el_nil)) (K.f_draw d _ r1.2.2 (by decide)) (by decide) (by repeat first | exact CsSet.head | apply CsSet.tail)) (by first | exact op_add | exact op_sub | exact op_mod (by first | assumption | lia | (simp; done) | (simp; lia)) | exact op_div (by first | assumption | lia | (simp; done) | (simp; lia)) (PyProof.noPylong_small (by lia)) | exact op_mul (mul_okR (by lia)) | exact op_mul (mul_okL (by lia)) | exact op_adds (by first | assumption | lia | (simp; done) | (simp; lia)) | exact op_addl (by first | assumption | lia | (simp; done) | (simp; lia)) | exact op_muls (by first | assumption | lia | (simp; done) | (simp; lia)) (by first | assumption | lia | (simp; done) | (simp; lia)) | exact op_mull (by first | assumption | lia | (simp; done) | (simp; lia)) (by first | assumption | lia | (simp; done) | (simp; lia)) (by first | assumption | lia | (simp; done) | (simp; lia)))) el_nil))) (by simp)) (.cons (.loc (by repeat first | exact SetAt.head | apply SetAt.tail)) (.cons (.loc (by repeat first | exact SetAt.head | apply SetAt.tail)) (.cons (.cell (by repeat first | exact List.Mem.head _ | apply List.Mem.tail) hX.k3 (by repeat first | exact CsSet.head | apply CsSet.tail)) .nil))) ?_ rfl (swap3c X hX.k3)
  obtain ⟨w, hw⟩ : ∃ w : Nat, 1 + (draw (draw ns1 3).2 8).1 = w := ⟨(1 + (draw (draw ns1 3).2 8).1).toNat, by lia⟩
  rw [hw]
  have hw8 : 0 < w ∧ w ≤ 8 := by lia
  have hf : 1 ≤ 1 + (draw ns1 3).1 ∧ 1 + (draw ns1 3).1 ≤ 3 := by lia
  have hd3 := r2.2.2
  generalize 1 + (draw ns1 3).1 = f at *
  generalize (draw (draw ns1 3).2 8).2 = ns3 at *
  have r3 := draw_ok hd3 (m := 2) (by decide)
  have r4 := draw_ok r3.2.2 (m := 13) (by decide)
  have hcc : (t.map fun n : Nat => PV.int n) = (t.map fun n : Nat => (n : Int)).map PV.int := by rw [List.map_map]; rfl
  refine ex_unpack (ev_tuple (el_cons (ev_row2 K.io rfl (by decide) (ev_globalR (by repeat first | exact List.Mem.head _ | apply List.Mem.tail) K.g_TextRow) (el_cons (ev_conv (ev_local (by repeat first | exact GetAt.head | apply GetAt.tail)) (by rw [hcc])) (el_cons (ev_local (by repeat first | exact GetAt.head | apply GetAt.tail)) el_nil)) (by rw [List.length_map]; lia)) (el_cons (ev_cmp (ev_callC (ev_globalR (by repeat first | exact List.Mem.head _ | apply List.Mem.tail) K.g_law_draw) K.d_law_draw.isFn (el_cons (ev_local (by repeat first | exact GetAt.head | apply GetAt.tail)) (el_cons ev_int el_nil)) (K.f_draw d ns3 hd3 (by decide)) (by decide) (by repeat first | exact CsSet.head | apply CsSet.tail)) ev_int (by first | exact cp_lt | exact cp_le | exact cp_gt | exact cp_ge | exact cp_eq | exact cp_ne | exact cp_eqs | exact cp_nes | exact cp_eqb | exact cp_in_tup | exact cp_notin_tup | exact cp_in_str | exact cp_notin_str)) (el_cons (ev_bin (ev_callC (ev_globalR (by repeat first | exact List.Mem.head _ | apply List.Mem.tail) K.g_law_draw) K.d_law_draw.isFn (el_cons (ev_local (by repeat first | exact GetAt.head | apply GetAt.tail)) (el_cons ev_int el_nil)) (K.f_draw d _ r3.2.2 (by decide)) (by decide) (by repeat first | exact CsSet.head | apply CsSet.tail)) ev_int (by first | exact op_add | exact op_sub | exact op_mod (by first | assumption | lia | (simp; done) | (simp; lia)) | exact op_div (by first | assumption | lia | (simp; done) | (simp; lia)) (PyProof.noPylong_small (by lia)) | exact op_mul (mul_okR (by lia)) | exact op_mul (mul_okL (by lia)) | exact op_adds (by first | assumption | lia | (simp; done) | (simp; lia)) | exact op_addl (by first | assumption | lia | (simp; done) | (simp; lia)) | exact op_muls (by first | assumption | lia | (simp; done) | (simp; lia)) (by first | assumption | lia | (simp; done) | (simp; lia)) | exact op_mull (by first | assumption | lia | (simp; done) | (simp; lia)) (by first | assumption | lia | (simp; done) | (simp; lia)) (by first | assumption | lia | (simp; done) | (simp; lia)))) el_nil))) (by simp)) (.cons (.loc (by repeat first | exact SetAt.head | apply SetAt.tail)) (.cons (.cell (by repeat first | exact List.Mem.head _ | apply List.Mem.tail) hX.k2 (by repeat first | exact CsSet.head | apply CsSet.tail)) (.cons (.cell (by repeat first | exact List.Mem.head _ | apply List.Mem.tail) hX.k1 (by repeat first | exact CsSet.head | apply CsSet.tail)) .nil))) ?_ rfl (swap3c X hX.k1)
  have hby : -6 ≤ (draw (draw ns3 2).2 13).1 - 6 ∧ (draw (draw ns3 2).2 13).1 - 6 ≤ 6 := by lia
  have hd5 := r4.2.2
  generalize (draw (draw ns3 2).2 13).1 - 6 = lby at *
  generalize decide ((draw ns3 2).1 = 1) = tabs at *
  generalize (draw (draw ns3 2).2 13).2 = ns5 at *
  have r5 := draw_ok hd5 (m := (t.length : Int) + 1) (by lia)
  have r6 := draw_ok r5.2.2 (m := (t.length : Int) + 1) (by lia)
  refine ex_unpackL (ev_callB (ev_builtin (by repeat first | exact List.Mem.head _ | apply List.Mem.tail) K.g_sorted rfl (by decide)) (el_cons (ev_list (el_cons (ev_callC (ev_globalR (by repeat first | exact List.Mem.head _ | apply List.Mem.tail) K.g_law_draw) K.d_law_draw.isFn (el_cons (ev_local (by repeat first | exact GetAt.head | apply GetAt.tail)) (el_cons (ev_bin (ev_callB (ev_builtin (by repeat first | exact List.Mem.head _ | apply List.Mem.tail) K.g_len rfl (by decide)) (el_cons (ev_local (by repeat first | exact GetAt.head | apply GetAt.tail)) el_nil) (by first | exact bi_len_list (by first | assumption | lia | (simp; done) | (simp; lia)) | exact bi_len_str (by first | assumption | lia | (simp; done) | (simp; lia)) | exact bi_abs | exact bi_max | exact bi_min | exact bi_chr (by first | assumption | lia | (simp; done) | (simp; lia)) (by first | assumption | lia | (simp; done) | (simp; lia)) | exact bi_ord | exact bi_lstrip (by first | assumption | lia | (simp; done) | (simp; lia)) | exact bi_rstrip (by first | assumption | lia | (simp; done) | (simp; lia)) | exact bi_strip (by first | assumption | lia | (simp; done) | (simp; lia)) | exact bi_count | exact bi_expandtabs (by first | assumption | lia | (simp; done) | (simp; lia)) (by first | assumption | lia | (simp; done) | (simp; lia)) (by first | assumption | lia | (simp; done) | (simp; lia)) | exact bi_split (by first | assumption | lia | (simp; done) | (simp; lia)) | exact bi_sorted2)) ev_int (by first | exact op_add | exact op_sub | exact op_mod (by first | assumption | lia | (simp; done) | (simp; lia)) | exact op_div (by first | assumption | lia | (simp; done) | (simp; lia)) (PyProof.noPylong_small (by lia)) | exact op_mul (mul_okR (by lia)) | exact op_mul (mul_okL (by lia)) | exact op_adds (by first | assumption | lia | (simp; done) | (simp; lia)) | exact op_addl (by first | assumption | lia | (simp; done) | (simp; lia)) | exact op_muls (by first | assumption | lia | (simp; done) | (simp; lia)) (by first | assumption | lia | (simp; done) | (simp; lia)) | exact op_mull (by first | assumption | lia | (simp; done) | (simp; lia)) (by first | assumption | lia | (simp; done) | (simp; lia)) (by first | assumption | lia | (simp; done) | (simp; lia)))) el_nil)) (K.f_draw d ns5 hd5 (by lia)) (by decide) (by repeat first | exact CsSet.head | apply CsSet.tail)) (el_cons (ev_callC (ev_globalR (by repeat first | exact List.Mem.head _ | apply List.Mem.tail) K.g_law_draw) K.d_law_draw.isFn (el_cons (ev_local (by repeat first | exact GetAt.head | apply GetAt.tail)) (el_cons (ev_bin (ev_callB (ev_builtin (by repeat first | exact List.Mem.head _ | apply List.Mem.tail) K.g_len rfl (by decide)) (el_cons (ev_local (by repeat first | exact GetAt.head | apply GetAt.tail)) el_nil) (by first | exact bi_len_list (by first | assumption | lia | (simp; done) | (simp; lia)) | exact bi_len_str (by first | assumption | lia | (simp; done) | (simp; lia)) | exact bi_abs | exact bi_max | exact bi_min | exact bi_chr (by first | assumption | lia | (simp; done) | (simp; lia)) (by first | assumption | lia | (simp; done) | (simp; lia)) | exact bi_ord | exact bi_lstrip (by first | assumption | lia | (simp; done) | (simp; lia)) | exact bi_rstrip (by first | assumption | lia | (simp; done) | (simp; lia)) | exact bi_strip (by first | assumption | lia | (simp; done) | (simp; lia)) | exact bi_count | exact bi_expandtabs (by first | assumption | lia | (simp; done) | (simp; lia)) (by first | assumption | lia | (simp; done) | (simp; lia)) (by first | assumption | lia | (simp; done) | (simp; lia)) | exact bi_split (by first | assumption | lia | (simp; done) | (simp; lia)) | exact bi_sorted2)) ev_int (by first | exact op_add | exact op_sub | exact op_mod (by first | assumption | lia | (simp; done) | (simp; lia)) | exact op_div (by first | assumption | lia | (simp; done) | (simp; lia)) (PyProof.noPylong_small (by lia)) | exact op_mul (mul_okR (by lia)) | exact op_mul (mul_okL (by lia)) | exact op_adds (by first | assumption | lia | (simp; done) | (simp; lia)) | exact op_addl (by first | assumption | lia | (simp; done) | (simp; lia)) | exact op_muls (by first | assumption | lia | (simp; done) | (simp; lia)) (by first | assumption | lia | (simp; done) | (simp; lia)) | exact op_mull (by first | assumption | lia | (simp; done) | (simp; lia)) (by first | assumption | lia | (simp; done) | (simp; lia)) (by first | assumption | lia | (simp; done) | (simp; lia)))) el_nil)) (K.f_draw d _ r5.2.2 (by lia)) (by decide) (by repeat first | exact CsSet.head | apply CsSet.tail)) el_nil)) (by simp)) el_nil) (by first | exact bi_len_list (by first | assumption | lia | (simp; done) | (simp; lia)) | exact bi_len_str (by first | assumption | lia | (simp; done) | (simp; lia)) | exact bi_abs | exact bi_max | exact bi_min | exact bi_chr (by first | assumption | lia | (simp; done) | (simp; lia)) (by first | assumption | lia | (simp; done) | (simp; lia)) | exact bi_ord | exact bi_lstrip (by first | assumption | lia | (simp; done) | (simp; lia)) | exact bi_rstrip (by first | assumption | lia | (simp; done) | (simp; lia)) | exact bi_strip (by first | assumption | lia | (simp; done) | (simp; lia)) | exact bi_count | exact bi_expandtabs (by first | assumption | lia | (simp; done) | (simp; lia)) (by first | assumption | lia | (simp; done) | (simp; lia)) (by first | assumption | lia | (simp; done) | (simp; lia)) | exact bi_split (by first | assumption | lia | (simp; done) | (simp; lia)) | exact bi_sorted2)) (.cons (.loc (by repeat first | exact SetAt.head | apply SetAt.tail)) (.cons (.loc (by repeat first | exact SetAt.head | apply SetAt.tail)) .nil)) ?_
  have hd7 := r6.2.2
  generalize (draw ns5 ((t.length : Int) + 1)).1 = a1 at *
  generalize (draw (draw ns5 ((t.length : Int) + 1)).2 ((t.length : Int) + 1)).1 = a2 at *
  generalize (draw (draw ns5 ((t.length : Int) + 1)).2 ((t.length : Int) + 1)).2 = ns7 at *
  obtain ⟨lo, hlo⟩ : ∃ lo : Nat, (if a2 < a1 then a2 else a1) = lo := ⟨(if a2 < a1 then a2 else a1).toNat, by split <;> lia⟩
  obtain ⟨hi, hhi⟩ : ∃ hi : Nat, (if a2 < a1 then a1 else a2) = hi := ⟨(if a2 < a1 then a1 else a2).toNat, by split <;> lia⟩
  rw [hlo, hhi]
  have hlh : lo ≤ hi ∧ hi ≤ t.length := by
    by_cases h : a2 < a1
    · rw [if_pos h] at hlo hhi; lia
    · rw [if_neg h] at hlo hhi; lia
  refine ex_fsub (vs' := fr1 d t f lo hi) ?_ (hr t f w tabs lby lo hi ns7 hab hln hf hw8 hby hlh.1 hlh.2 hd7)
  exact .keep (.keep (.keep (.keep (.keep (.keep (.drop (Fsub.refl _)))))))
end Mine

end
section
open PySem PySem.W PyProof.Rows
namespace Mine
open PySem PySem.Calls PySem.W PyProof.Rows PySem.Builtin.Str
variable {c : Cx}
set_option maxRecDepth 100000
set_option maxHeartbeats 8000000
noncomputable def EdOk (e : Edit) : Prop := e.1 ≤ e.2.1 ∧ e.2.1 ≤ 100000 ∧ e.2.2.length ≤ 1000 ∧ ∀ n ∈ e.2.2, n < 1000
noncomputable def TrB (t : List Nat) (lo hi : Nat) (g : List Nat → List Nat) : Prop := ((trL lo hi g 0 (spl t)).map (·.length)).sum + (trL lo hi g 0 (spl t)).length ≤ 1048576
/-- what the first two changes of indentation do -/
structure PlainB (t : List Nat) (w : Nat) (tabs : Bool) (lby : Int) (lo hi : Nat) : Prop where
  ind : ∀ i, indAt w t i ≤ 300000 ∧ 0 ≤ indAt w t i
  col : ∀ x ∈ spl t, -100000 ≤ colOf w (lead x) + lby ∧ colOf w (lead x) + lby ≤ 100000 ∧ x.length ≤ 50000
  num : (starts t lo hi).length ≤ 1000
  rigE : ∀ e ∈ (starts t lo hi).map (rigidE t lby w tabs), EdOk e
  rig : done t ((starts t lo hi).map (rigidE t lby w tabs)).reverse = trn t lo hi (fun x => indd x (colOf w (lead x) + lby) w tabs)
  rigB : TrB t lo hi (fun x => indd x (colOf w (lead x) + lby) w tabs)
  regE : ∀ e ∈ (starts t lo hi).map (regionE t lby w tabs), EdOk e
  reg : done t ((starts t lo hi).map (regionE t lby w tabs)).reverse = trn t lo hi (fun x => indd x lby w tabs)
  regB : TrB t lo hi (fun x => indd x lby w tabs)
theorem ev_free' {k : Nat} {nk gl : List Str} {cl : List (Str × Addr)} {X : Fx c k nk gl cl} {vs : List (Option PV)} {cs : Cells} {H : Fz} {x : Str} {a : Addr} {p : PV} {pos : Pos} (hz : ∃ h : Heap, (∀ a o, h.get? a = some o → H a = some o) ∧ CellAt H h (a, .var (some p))) (hle : H.le X.F0) (g : (x, a) ∈ cl)
    (hd : (x == ("__debug__" : Str)) = false := by decide) (hn : (x == ("__classdict__" : Str)) = false := by decide) : Ev X vs cs (.Name x pos) p cs := by
  obtain ⟨h, hh, v, ⟨o, ho, hdt⟩, hi⟩ := hz
  exact ev_free g (hle _ _ (hh _ _ ho)) hdt (hi.mono hle) hd hn
theorem ed_list (es : List Edit) (f : Int) : (es.map fun i => edt f i).reverse = es.reverse.map (edt f) := (List.map_reverse ..).symm
theorem done_args {es : List Edit} (h : ∀ e ∈ es, EdOk e) : ∀ e ∈ es.reverse, e.1 ≤ e.2.1 ∧ e.2.1 ≤ 100000 ∧ e.2.2.length ≤ 1000 ∧ ∀ n ∈ e.2.2, n < 1000 := fun e he => h e (List.mem_reverse.mp he)
theorem chunkB (K : KOk c) {L1 L2 L3 : Addr} (X : LX c L1 L2 L3) (hX : LawX X) {z : Addr × CV} {d : Addr} {ns : List Int} {τ : Cells} {t : List Nat} {f : Int} {w : Nat} {tabs : Bool} {lby : Int} {lo hi : Nat} (hln : t.length ≤ 17) (hf : 1 ≤ f ∧ f ≤ 3) (hw : 0 < w ∧ w ≤ 8) (hby : -6 ≤ lby ∧ lby ≤ 6) (hlh : lo ≤ hi) (hhi : hi ≤ t.length)
    (hτ : TabInv (X.env.qual ++ "<lambda>") τ) (hB : PlainB t w tabs lby lo hi) {N : List (Option PV) → Cells → Prop} {R : PV → Cells → Prop}
    (hr : ∀ τ', TabInv (X.env.qual ++ "<lambda>") τ' → Ex X (fr1 d t f lo hi) (cl0 z d ns L1 L2 L3 (some (.int lby)) (some (.bool tabs)) (some (.int w)) τ') (lbody.drop 9) N R) :
    Ex X (fr1 d t f lo hi) (cl0 z d ns L1 L2 L3 (some (.int lby)) (some (.bool tabs)) (some (.int w)) τ) (lbody.drop 4) N R := by
  refine ex_assign (p := .list (((starts t lo hi).map (rigidE t lby w tabs)).reverse.map (edt f))) (ev_conv (ev_call0 (ev_globalR (by repeat first | exact List.Mem.head _ | apply List.Mem.tail) K.g_rigid_edits) K.d_rigid_edits.isFn (el_cons (ev_local (by repeat first | exact GetAt.head | apply GetAt.tail)) (el_cons (ev_bin (ev_local (by repeat first | exact GetAt.head | apply GetAt.tail)) (ev_local (by repeat first | exact GetAt.head | apply GetAt.tail)) (by first | exact op_add | exact op_sub | exact op_mod (by first | assumption | lia | (simp; done) | (simp; lia)) | exact op_div (by first | assumption | lia | (simp; done) | (simp; lia)) (PyProof.noPylong_small (by lia)) | exact op_mul (mul_okR (by lia)) | exact op_mul (mul_okL (by lia)) | exact op_adds (by first | assumption | lia | (simp; done) | (simp; lia)) | exact op_addl (by first | assumption | lia | (simp; done) | (simp; lia)) | exact op_muls (by first | assumption | lia | (simp; done) | (simp; lia)) (by first | assumption | lia | (simp; done) | (simp; lia)) | exact op_mull (by first | assumption | lia | (simp; done) | (simp; lia)) (by first | assumption | lia | (simp; done) | (simp; lia)) (by first | assumption | lia | (simp; done) | (simp; lia)))) (el_cons (ev_bin (ev_local (by repeat first | exact GetAt.head | apply GetAt.tail)) (ev_local (by repeat first | exact GetAt.head | apply GetAt.tail)) (by first | exact op_add | exact op_sub | exact op_mod (by first | assumption | lia | (simp; done) | (simp; lia)) | exact op_div (by first | assumption | lia | (simp; done) | (simp; lia)) (PyProof.noPylong_small (by lia)) | exact op_mul (mul_okR (by lia)) | exact op_mul (mul_okL (by lia)) | exact op_adds (by first | assumption | lia | (simp; done) | (simp; lia)) | exact op_addl (by first | assumption | lia | (simp; done) | (simp; lia)) | exact op_muls (by first | assumption | lia | (simp; done) | (simp; lia)) (by first | assumption | lia | (simp; done) | (simp; lia)) | exact op_mull (by first | assumption | lia | (simp; done) | (simp; lia)) (by first | assumption | lia | (simp; done) | (simp; lia)) (by first | assumption | lia | (simp; done) | (simp; lia)))) (el_cons (ev_cell (by repeat first | exact List.Mem.head _ | apply List.Mem.tail) (by repeat first | exact List.Mem.head _ | apply List.Mem.tail)) (el_cons (ev_cell (by repeat first | exact List.Mem.head _ | apply List.Mem.tail) (by repeat first | exact List.Mem.head _ | apply List.Mem.tail)) (el_cons (ev_cell (by repeat first | exact List.Mem.head _ | apply List.Mem.tail) (by repeat first | exact List.Mem.head _ | apply List.Mem.tail)) el_nil)))))) (K.f_rigid_edits t f lo hi (by lia) (by lia) (by lia) (by lia) (by lia) (by lia) hB.ind rfl rfl) (by decide)) (by rw [← ed_list, List.map_map]; rfl)) (by repeat first | exact SetAt.head | apply SetAt.tail) ?_
  refine ex_assignX (ev_turned (pre := [z, (d, iL ns), (L1, .var (some (.int lby))), (L2, .var (some (.bool tabs))), (L3, .var (some (.int w)))]) (τ := τ) (j := 5) (g := fun x => indd x (colOf w (lead x) + lby) w tabs) (gl' := [ks "_law_indented", ks "_law_blank_columns"]) (cl' := lcl L1 L2 L3) (clo := [(ks "_law_width", L3), (ks "_law_tabs", L2), (ks "_law_by", L1)]) (x := ks "_law_line") K
    ⟨by unfold closureFor cellOf; rw [hX.cells]; rfl, rfl, fun _ _ _ _ => rfl, by decide, rfl, rfl, rfl, by decide, by decide, fun y hy => by
        simp only [List.mem_cons, List.not_mem_nil, or_false] at hy
        rcases hy with rfl | rfl | rfl <;> exact ⟨rfl, rfl⟩⟩ hX.code (ev_globalR (by repeat first | exact List.Mem.head _ | apply List.Mem.tail) K.g_law_turned) (ev_local (by repeat first | exact GetAt.head | apply GetAt.tail)) (ev_local (by repeat first | exact GetAt.head | apply GetAt.tail)) (ev_local (by repeat first | exact GetAt.head | apply GetAt.tail)) hτ (by decide) (by lia) hB.rigB (fun H X2 hle hz l hl => ?_)) (by repeat first | exact SetAt.head | apply SetAt.tail) ?_
  · have hc := hB.col l hl
    exact (ev_call0 (ev_globalR (by repeat first | exact List.Mem.head _ | apply List.Mem.tail) K.g_law_indented) K.d_law_indented.isFn (el_cons (ev_local (by repeat first | exact GetAt.head | apply GetAt.tail)) (el_cons (ev_bin (ev_call0 (ev_globalR (by repeat first | exact List.Mem.head _ | apply List.Mem.tail) K.g_law_blank_columns) K.d_law_blank_columns.isFn (el_cons (ev_local (by repeat first | exact GetAt.head | apply GetAt.tail)) (el_cons (ev_free' (hz _ (by repeat first | exact List.Mem.head _ | apply List.Mem.tail)) hle (by repeat first | exact List.Mem.head _ | apply List.Mem.tail)) el_nil)) (K.f_blank_columns (by lia) hc.2.2) (by decide)) (ev_free' (hz _ (by repeat first | exact List.Mem.head _ | apply List.Mem.tail)) hle (by repeat first | exact List.Mem.head _ | apply List.Mem.tail)) (by first | exact op_add | exact op_sub | exact op_mod (by first | assumption | lia | (simp; done) | (simp; lia)) | exact op_div (by first | assumption | lia | (simp; done) | (simp; lia)) (PyProof.noPylong_small (by lia)) | exact op_mul (mul_okR (by lia)) | exact op_mul (mul_okL (by lia)) | exact op_adds (by first | assumption | lia | (simp; done) | (simp; lia)) | exact op_addl (by first | assumption | lia | (simp; done) | (simp; lia)) | exact op_muls (by first | assumption | lia | (simp; done) | (simp; lia)) (by first | assumption | lia | (simp; done) | (simp; lia)) | exact op_mull (by first | assumption | lia | (simp; done) | (simp; lia)) (by first | assumption | lia | (simp; done) | (simp; lia)) (by first | assumption | lia | (simp; done) | (simp; lia)))) (el_cons (ev_free' (hz _ (by repeat first | exact List.Mem.head _ | apply List.Mem.tail)) hle (by repeat first | exact List.Mem.head _ | apply List.Mem.tail)) (el_cons (ev_free' (hz _ (by repeat first | exact List.Mem.head _ | apply List.Mem.tail)) hle (by repeat first | exact List.Mem.head _ | apply List.Mem.tail)) el_nil)))) (K.f_indented (by lia) (by lia) hc.2.2) (by decide))
  rintro _ ⟨τ1, rfl, hτ1⟩
  refine ex_if (et_cmp (ev_call0 (ev_globalR (by repeat first | exact List.Mem.head _ | apply List.Mem.tail) K.g_law_done) K.d_law_done.isFn (el_cons (ev_local (by repeat first | exact GetAt.head | apply GetAt.tail)) (el_cons (ev_local (by repeat first | exact GetAt.head | apply GetAt.tail)) (el_cons (ev_local (by repeat first | exact GetAt.head | apply GetAt.tail)) el_nil))) (K.f_done (by lia) (by rw [List.length_reverse, List.length_map]; exact hB.num) (by lia) (done_args hB.rigE)) (by decide)) (ev_local (by repeat first | exact GetAt.head | apply GetAt.tail)) (by first | exact cp_lt | exact cp_le | exact cp_gt | exact cp_ge | exact cp_eq | exact cp_ne | exact cp_eqs | exact cp_nes | exact cp_eqb | exact cp_in_tup | exact cp_notin_tup | exact cp_in_str | exact cp_notin_str)) (fun hb => ?_) (fun _ => ?_)
  · rw [hB.rig] at hb; simp at hb
  refine ex_assign (p := .list (((starts t lo hi).map (regionE t lby w tabs)).reverse.map (edt f))) (ev_conv (ev_call0 (ev_globalR (by repeat first | exact List.Mem.head _ | apply List.Mem.tail) K.g_region_edits) K.d_region_edits.isFn (el_cons (ev_local (by repeat first | exact GetAt.head | apply GetAt.tail)) (el_cons (ev_bin (ev_local (by repeat first | exact GetAt.head | apply GetAt.tail)) (ev_local (by repeat first | exact GetAt.head | apply GetAt.tail)) (by first | exact op_add | exact op_sub | exact op_mod (by first | assumption | lia | (simp; done) | (simp; lia)) | exact op_div (by first | assumption | lia | (simp; done) | (simp; lia)) (PyProof.noPylong_small (by lia)) | exact op_mul (mul_okR (by lia)) | exact op_mul (mul_okL (by lia)) | exact op_adds (by first | assumption | lia | (simp; done) | (simp; lia)) | exact op_addl (by first | assumption | lia | (simp; done) | (simp; lia)) | exact op_muls (by first | assumption | lia | (simp; done) | (simp; lia)) (by first | assumption | lia | (simp; done) | (simp; lia)) | exact op_mull (by first | assumption | lia | (simp; done) | (simp; lia)) (by first | assumption | lia | (simp; done) | (simp; lia)) (by first | assumption | lia | (simp; done) | (simp; lia)))) (el_cons (ev_bin (ev_local (by repeat first | exact GetAt.head | apply GetAt.tail)) (ev_local (by repeat first | exact GetAt.head | apply GetAt.tail)) (by first | exact op_add | exact op_sub | exact op_mod (by first | assumption | lia | (simp; done) | (simp; lia)) | exact op_div (by first | assumption | lia | (simp; done) | (simp; lia)) (PyProof.noPylong_small (by lia)) | exact op_mul (mul_okR (by lia)) | exact op_mul (mul_okL (by lia)) | exact op_adds (by first | assumption | lia | (simp; done) | (simp; lia)) | exact op_addl (by first | assumption | lia | (simp; done) | (simp; lia)) | exact op_muls (by first | assumption | lia | (simp; done) | (simp; lia)) (by first | assumption | lia | (simp; done) | (simp; lia)) | exact op_mull (by first | assumption | lia | (simp; done) | (simp; lia)) (by first | assumption | lia | (simp; done) | (simp; lia)) (by first | assumption | lia | (simp; done) | (simp; lia)))) (el_cons (ev_cell (by repeat first | exact List.Mem.head _ | apply List.Mem.tail) (by repeat first | exact List.Mem.head _ | apply List.Mem.tail)) (el_cons (ev_cell (by repeat first | exact List.Mem.head _ | apply List.Mem.tail) (by repeat first | exact List.Mem.head _ | apply List.Mem.tail)) (el_cons (ev_cell (by repeat first | exact List.Mem.head _ | apply List.Mem.tail) (by repeat first | exact List.Mem.head _ | apply List.Mem.tail)) el_nil)))))) (K.f_region_edits t f lo hi (by lia) (by lia) (by lia) (by lia) (by lia) (by lia) rfl rfl) (by decide)) (by rw [← ed_list, List.map_map]; rfl)) (by repeat first | exact SetAt.head | apply SetAt.tail) ?_
  refine ex_if_cmpX (ev_call0 (ev_globalR (by repeat first | exact List.Mem.head _ | apply List.Mem.tail) K.g_law_done) K.d_law_done.isFn (el_cons (ev_local (by repeat first | exact GetAt.head | apply GetAt.tail)) (el_cons (ev_local (by repeat first | exact GetAt.head | apply GetAt.tail)) (el_cons (ev_local (by repeat first | exact GetAt.head | apply GetAt.tail)) el_nil))) (K.f_done (by lia) (by rw [List.length_reverse, List.length_map]; exact hB.num) (by lia) (done_args hB.regE)) (by decide)) (ev_turned (pre := [z, (d, iL ns), (L1, .var (some (.int lby))), (L2, .var (some (.bool tabs))), (L3, .var (some (.int w)))]) (τ := τ1) (j := 5) (g := fun x => indd x lby w tabs) (gl' := [ks "_law_indented"]) (cl' := lcl L1 L2 L3) (clo := [(ks "_law_width", L3), (ks "_law_tabs", L2), (ks "_law_by", L1)]) (x := ks "_law_line") K
    ⟨by unfold closureFor cellOf; rw [hX.cells]; rfl, rfl, fun _ _ _ _ => rfl, by decide, rfl, rfl, rfl, by decide, by decide, fun y hy => by
        simp only [List.mem_cons, List.not_mem_nil, or_false] at hy
        rcases hy with rfl | rfl | rfl <;> exact ⟨rfl, rfl⟩⟩ hX.code (ev_globalR (by repeat first | exact List.Mem.head _ | apply List.Mem.tail) K.g_law_turned) (ev_local (by repeat first | exact GetAt.head | apply GetAt.tail)) (ev_local (by repeat first | exact GetAt.head | apply GetAt.tail)) (ev_local (by repeat first | exact GetAt.head | apply GetAt.tail)) hτ1 (by decide) (by lia) hB.regB (fun H X2 hle hz l hl => ?_)) cp_nes (fun hb => ?_) (fun _ cs' hcs => ?_)
  · have hc := hB.col l hl
    exact (ev_call0 (ev_globalR (by repeat first | exact List.Mem.head _ | apply List.Mem.tail) K.g_law_indented) K.d_law_indented.isFn (el_cons (ev_local (by repeat first | exact GetAt.head | apply GetAt.tail)) (el_cons (ev_free' (hz _ (by repeat first | exact List.Mem.head _ | apply List.Mem.tail)) hle (by repeat first | exact List.Mem.head _ | apply List.Mem.tail)) (el_cons (ev_free' (hz _ (by repeat first | exact List.Mem.head _ | apply List.Mem.tail)) hle (by repeat first | exact List.Mem.head _ | apply List.Mem.tail)) (el_cons (ev_free' (hz _ (by repeat first | exact List.Mem.head _ | apply List.Mem.tail)) hle (by repeat first | exact List.Mem.head _ | apply List.Mem.tail)) el_nil)))) (K.f_indented (by lia) (by lia) hc.2.2) (by decide))
  · rw [hB.reg] at hb; simp at hb
  obtain ⟨τ2, rfl, hτ2⟩ := hcs
  refine ex_fsub (vs' := fr1 d t f lo hi) ?_ (hr τ2 hτ2)
  exact .keep (.keep (.keep (.keep (.keep (.keep (.keep (.drop (.drop (Fsub.refl _)))))))))
end Mine

end
section
namespace Mine
open PySem

theorem tw_mem {p : Nat → Bool} {n : Nat} : ∀ {l : List Nat}, n ∈ l.takeWhile p → p n = true
  | a :: r, h => by
    rw [List.takeWhile_cons] at h
    split at h
    · rename_i ha
      rcases List.mem_cons.mp h with rfl | h
      · exact ha
      · exact tw_mem h
    · cases h
/-! many edits at once -/
/-- the text from k on, edited -/
noncomputable def asm (t : List Nat) : Nat → List Edit → List Nat
  | k, [] => t.drop k
  | k, e :: es => (t.take e.1).drop k ++ e.2.2 ++ asm t e.2.1 es
noncomputable def Asc (t : List Nat) : Nat → List Edit → Prop
  | k, [] => k ≤ t.length
  | k, e :: es => k ≤ e.1 ∧ e.1 ≤ e.2.1 ∧ Asc t e.2.1 es
theorem Asc.le {t : List Nat} : ∀ {es : List Edit} {k : Nat}, Asc t k es → k ≤ t.length
  | [], _, h => h
  | e :: es, k, h => Nat.le_trans h.1 (Nat.le_trans h.2.1 h.2.2.le)
theorem take_drop_app {t : List Nat} {a b : Nat} (h : a ≤ b) (hb : b ≤ t.length) : t.take a ++ (t.take b).drop a = t.take b := by
  have := List.take_append_drop a (t.take b)
  rwa [List.take_take, Nat.min_eq_left h] at this
theorem done_asm {t : List Nat} : ∀ {es : List Edit} {k : Nat}, Asc t k es → done t es.reverse = t.take k ++ asm t k es
  | [], k, _ => (List.take_append_drop k t).symm
  | e :: es, k, h => by
    have ih := done_asm h.2.2
    have hl := h.2.2.le
    rw [List.reverse_cons, done_snoc, ih, show asm t k (e :: es) = (t.take e.1).drop k ++ e.2.2 ++ asm t e.2.1 es from rfl]
    unfold appE
    rw [List.take_append_of_le_length (by rw [take_len hl]; exact h.2.1), List.take_take, Nat.min_eq_left h.2.1, List.drop_left' (take_len hl), ← List.append_assoc, ← List.append_assoc, take_drop_app h.1 (Nat.le_trans h.2.1 hl)]
theorem asm_shift {t : List Nat} : ∀ {es : List Edit} {k k' : Nat}, k ≤ k' → Asc t k' es → asm t k es = (t.take k').drop k ++ asm t k' es
  | [], k, k', h, h' => by
    unfold asm
    have h1 : t.drop k = (t.take k' ++ t.drop k').drop k := by rw [List.take_append_drop]
    rw [h1, List.drop_append_of_le_length (by rw [take_len h']; exact h)]
  | e :: es, k, k', h, h' => by
    unfold asm
    have hl := Nat.le_trans h'.2.1 h'.2.2.le
    have h1 : t.take e.1 = t.take k' ++ (t.take e.1).drop k' := (take_drop_app h'.1 hl).symm
    have h2 : (t.take e.1).drop k = (t.take k').drop k ++ (t.take e.1).drop k' := by
      conv => lhs; rw [h1]
      rw [List.drop_append_of_le_length (by rw [take_len (Nat.le_trans h'.1 hl)]; exact h)]
    rw [h2, List.append_assoc, List.append_assoc, List.append_assoc]

/-! the lines of a text and their places -/
theorem bwd_at {q : Int → Bool} {l : List Nat} {a i : Nat} (ha : a = 0 ∨ q (cod l (a - 1)) = false) : a ≤ i → (∀ j, a ≤ j → j < i → q (cod l j) = true) → bwd q l i = a := by
  induction i with
  | zero => intro h _; have : a = 0 := by lia
            subst this; rfl
  | succ i ih =>
    intro h hj
    unfold bwd
    by_cases hai : a = i + 1
    · subst hai
      rcases ha with ha | ha
      · lia
      · rw [Nat.add_sub_cancel] at ha; rw [if_neg (by rw [ha]; decide)]
    · rw [if_pos (hj i (by lia) (Nat.lt_succ_self _)), ih (by lia) fun j h1 h2 => hj j h1 (by lia)]
/-- p ++ x ++ q with x a whole line -/
structure Line (t p x q : List Nat) : Prop where
  eq : t = p ++ (x ++ q)
  pe : Ends p
  free : 10 ∉ x
  qe : q = [] ∨ ∃ q', q = 10 :: q'
section
variable {t p x q : List Nat}
theorem Line.len (h : Line t p x q) : p.length + x.length ≤ t.length := by rw [h.eq]; simp
theorem Line.cod_x (h : Line t p x q) {j : Nat} (hj : j < x.length) : cod t (p.length + j) = (x[j] : Nat) := by
  have hl := h.len
  rw [cod_get (by lia)]
  congr 1
  simp only [h.eq]
  rw [List.getElem_append_right (by lia)]
  simp only [Nat.add_sub_cancel_left]
  rw [List.getElem_append_left hj]
theorem Line.cod_end (h : Line t p x q) : notN (cod t (p.length + x.length)) = false ∨ p.length + x.length = t.length := by
  rcases h.qe with hq | ⟨q', hq⟩
  · right; rw [h.eq, hq]; simp
  · left
    have : p.length + x.length < t.length := by rw [h.eq, hq]; simp
    rw [cod_get this]
    have e : t[p.length + x.length] = 10 := by
      simp only [h.eq, hq]
      rw [List.getElem_append_right (by lia)]
      simp only [Nat.add_sub_cancel_left]
      rw [List.getElem_append_right (Nat.le_refl _)]
      simp
    rw [e]; decide
theorem Line.start (h : Line t p x q) : p.length = 0 ∨ notN (cod t (p.length - 1)) = false := by
  rcases h.pe with rfl | ⟨p', rfl⟩
  · exact .inl rfl
  · right
    have hl := h.len
    rw [List.length_append] at hl ⊢
    simp only [List.length_cons, List.length_nil, Nat.zero_add, Nat.add_sub_cancel] at hl ⊢
    rw [cod_get (by lia)]
    have e : t[p'.length]'(by lia) = 10 := by
      simp only [h.eq]
      rw [List.getElem_append_left (by simp), List.getElem_append_right (Nat.le_refl _)]
      simp
    rw [e]; decide
theorem Line.bwd (h : Line t p x q) {j : Nat} (hj : j ≤ x.length) : Mine.bwd notN t (p.length + j) = p.length :=
  bwd_at h.start (Nat.le_add_right _ _) fun i h1 h2 => by
    obtain ⟨d, rfl⟩ : ∃ d, i = p.length + d := ⟨i - p.length, by lia⟩
    have hd : d < x.length := by lia
    rw [h.cod_x hd]
    exact (notN_iff _).mpr fun e => h.free (e ▸ List.getElem_mem hd)
theorem Line.fwd (h : Line t p x q) {j : Nat} (hj : j ≤ x.length) : Mine.fwd notN t (p.length + j) = p.length + x.length := by
  have key : ∀ d, j + d = x.length → Mine.fwd notN t (p.length + j) = p.length + x.length := by
    intro d
    induction d generalizing j with
    | zero =>
      intro e
      have : j = x.length := by lia
      subst this
      refine fwd_stop _ fun hlt => ?_
      rcases h.cod_end with h1 | h1
      · exact h1
      · lia
    | succ d ih =>
      intro e
      have hl := h.len
      have hlt : j < x.length := by lia
      rw [fwd_step _ (by lia) (by rw [h.cod_x hlt]; exact (notN_iff _).mpr fun e => h.free (e ▸ List.getElem_mem hlt))]
      exact ih (j := j + 1) (by lia) (by lia)
  exact key (x.length - j) (by lia)
theorem Line.drop (h : Line t p x q) : t.drop p.length = x ++ q := by rw [h.eq]; exact List.drop_left
theorem Line.take (h : Line t p x q) : t.take p.length = p := by rw [h.eq]; exact List.take_left
theorem Line.inE (h : Line t p x q) : inE t p.length = p.length + (lead x).length := by
  unfold Mine.inE
  have e := h.bwd (j := 0) (Nat.zero_le _)
  rw [Nat.add_zero] at e
  rw [e]
  unfold Mine.fwd
  rw [h.drop]
  have e2 : ((x ++ q).takeWhile fun n : Nat => isB n) = lead x := by
    unfold lead
    have : (fun n : Nat => isB (n : Int)) = bl := by funext n; exact isB_bl n
    rw [this]
    have hx := List.takeWhile_append_dropWhile (p := bl) (l := x)
    cases hd : x.dropWhile bl with
    | nil =>
      rw [hd, List.append_nil] at hx
      have hall : ∀ n ∈ x, bl n = true := fun n hn => by rw [← hx] at hn; exact tw_mem hn
      rw [takeWhile_all hall, hx]
      rcases h.qe with hq | ⟨q', hq⟩
      · rw [hq]; simp
      · rw [hq]; simp [bl]
    | cons y ys =>
      rw [hd] at hx
      have hy : bl y = false := by
        have := List.head_dropWhile_not (p := bl) (l := x) (by rw [hd]; simp)
        simpa [hd] using this
      conv => lhs; rw [← hx]
      rw [List.append_assoc, takeWhile_all (fun n hn => tw_mem hn)]
      simp [hy]
  rw [e2]
end
end Mine

end
section
namespace Mine
open PySem

noncomputable def lst : Nat → List (List Nat) → List Nat
  | _, [] => []
  | a, x :: r => a :: lst (a + x.length + 1) r
theorem lst_ge : ∀ {L : List (List Nat)} {a i : Nat}, i ∈ lst a L → a ≤ i
  | [], _, _, h => by cases h
  | x :: r, a, i, h => by
    rcases List.mem_cons.mp h with rfl | h
    · exact Nat.le_refl _
    · have := lst_ge h; lia
/-- the lines of t from a on -/
structure Rem (t : List Nat) (a : Nat) (L : List (List Nat)) : Prop where
  eq : t.drop a = unl L
  ne : L ≠ []
  free : ∀ x ∈ L, 10 ∉ x
  pe : Ends (t.take a)
  le : a ≤ t.length
theorem Rem.start (t : List Nat) : Rem t 0 (spl t) := ⟨(unl_spl t).symm, spl_ne t, spl_free t, .inl rfl, Nat.zero_le _⟩
theorem Rem.line {t : List Nat} {a : Nat} {x : List Nat} {r : List (List Nat)} (h : Rem t a (x :: r)) : ∃ q, Line t (t.take a) x q ∧ (r = [] → q = []) ∧ (r ≠ [] → q = 10 :: unl r) := by
  have e : t = t.take a ++ t.drop a := (List.take_append_drop a t).symm
  cases r with
  | nil => exact ⟨[], ⟨by rw [h.eq] at e; simpa [unl] using e, h.pe, h.free x (.head _), .inl rfl⟩, fun _ => rfl, fun q => absurd rfl q⟩
  | cons y r => exact ⟨10 :: unl (y :: r), ⟨by rw [h.eq, unl_cons (by simp)] at e; exact e, h.pe, h.free x (.head _), .inr ⟨_, rfl⟩⟩, (fun q => by cases q), fun _ => rfl⟩
theorem Rem.next {t : List Nat} {a : Nat} {x y : List Nat} {r : List (List Nat)} (h : Rem t a (x :: y :: r)) : Rem t (a + x.length + 1) (y :: r) ∧ a + x.length < t.length := by
  have h1 := h.eq
  rw [unl_cons (by simp)] at h1
  have hl := congrArg List.length h1
  rw [List.length_drop, List.length_append, List.length_cons] at hl
  have hle := h.le
  have hlt : a + x.length < t.length := by lia
  have e2 : t.drop (a + x.length + 1) = unl (y :: r) := by
    rw [Nat.add_assoc, ← List.drop_drop, h1, show x ++ 10 :: unl (y :: r) = (x ++ [10]) ++ unl (y :: r) by simp, List.drop_left' (by simp)]
  refine ⟨⟨e2, by simp, fun z hz => h.free z (.tail _ hz), .inr ⟨t.take (a + x.length), ?_⟩, by lia⟩, hlt⟩
  rw [← List.take_append_getElem hlt]
  congr 1
  have : t[a + x.length] = 10 := by
    have h2 : (t.drop a)[x.length]? = some 10 := by rw [h1]; simp
    rw [List.getElem?_drop, List.getElem?_eq_getElem hlt] at h2
    exact Option.some.inj h2
  rw [this]
theorem Rem.nx {t : List Nat} {a : Nat} {x : List Nat} {r : List (List Nat)} (h : Rem t a (x :: r)) {i : Nat} (h1 : a ≤ i) (h2 : i ≤ a + x.length) : Mine.nx t i = if r = [] then none else some (a + x.length + 1) := by
  obtain ⟨q, hl, q1, q2⟩ := h.line
  have hp : (t.take a).length = a := take_len h.le
  obtain ⟨j, rfl⟩ : ∃ j, i = a + j := ⟨i - a, by lia⟩
  have hf := hl.fwd (j := j) (by lia)
  rw [hp] at hf
  unfold Mine.nx
  rw [hf]
  have hlen := congrArg List.length hl.eq
  rw [List.length_append, List.length_append, hp] at hlen
  by_cases hr : r = []
  · rw [q1 hr] at hlen
    rw [if_neg (by simp at hlen; lia), if_pos hr]
  · rw [q2 hr, List.length_cons] at hlen
    rw [if_pos (by lia), if_neg hr]
theorem filter_none {p : Nat → Bool} {l : List Nat} (h : ∀ i ∈ l, p i = false) : l.filter p = [] := by
  rw [List.filter_eq_nil_iff]; intro i hi; rw [h i hi]; decide
theorem st_eq {t : List Nat} {hi : Nat} : ∀ {L : List (List Nat)} {a k : Nat}, Rem t a L → hi ≤ a + k → st t hi k (some a) = (lst a L).filter fun i => decide (i < hi)
  | [], a, k, h, _ => absurd rfl h.ne
  | x :: r, a, 0, h, hk => by
    rw [filter_none fun i hi => decide_eq_false (by have := lst_ge hi; lia)]; rfl
  | x :: r, a, k + 1, h, hk => by
    unfold st
    rw [h.nx (Nat.le_refl _) (Nat.le_add_right _ _)]
    by_cases ha : a < hi
    · rw [if_pos ha]
      have e : (lst a (x :: r)).filter (fun i => decide (i < hi)) = a :: (lst (a + x.length + 1) r).filter fun i => decide (i < hi) := by
        show List.filter _ (a :: lst (a + x.length + 1) r) = _
        rw [List.filter_cons, if_pos (decide_eq_true ha)]
      rw [e]
      cases r with
      | nil => rw [if_pos rfl]; cases k <;> rfl
      | cons y r => rw [if_neg (by simp), st_eq h.next.1 (by lia)]
    · rw [if_neg ha, filter_none fun i hi => decide_eq_false (by have := lst_ge hi; lia)]
theorem starts_eq {t : List Nat} {lo hi : Nat} (hlo : lo ≤ t.length) : ∀ {L : List (List Nat)} {a : Nat}, Rem t a L → a ≤ lo → starts t lo hi = (lst a L).filter fun i => decide (lo ≤ i) && decide (i < hi)
  | [], a, h, _ => absurd rfl h.ne
  | x :: r, a, h, hal => by
    obtain ⟨q, hl, q1, q2⟩ := h.line
    have hp : (t.take a).length = a := take_len h.le
    have e0 : (lst a (x :: r)).filter (fun i => decide (lo ≤ i) && decide (i < hi)) = (if lo ≤ a ∧ a < hi then [a] else []) ++ (lst (a + x.length + 1) r).filter fun i => decide (lo ≤ i) && decide (i < hi) := by
      show List.filter _ (a :: lst (a + x.length + 1) r) = _
      rw [List.filter_cons]
      by_cases hc : lo ≤ a ∧ a < hi
      · rw [if_pos hc, if_pos (by simp [hc])]; rfl
      · rw [if_neg hc, if_neg (by simpa using hc)]; rfl
    by_cases h0 : lo = a
    · subst h0
      have hlb : isLB t lo = true := by
        unfold isLB
        rcases hl.start with h1 | h1
        · rw [hp] at h1; rw [h1]; rfl
        · rw [hp] at h1
          unfold notN at h1
          rw [Bool.or_eq_true]; right; simpa using h1
      unfold starts
      rw [hlb, if_pos rfl, st_eq h (by lia)]
      refine List.filter_congr fun i hi => ?_
      rw [decide_eq_true (lst_ge hi), Bool.true_and]
    · by_cases h1 : lo ≤ a + x.length
      · have hlb : isLB t lo = false := by
          unfold isLB
          rw [Bool.or_eq_false_iff]
          refine ⟨decide_eq_false (by lia), decide_eq_false ?_⟩
          obtain ⟨j, hj⟩ : ∃ j, lo - 1 = a + j := ⟨lo - 1 - a, by lia⟩
          have hjl : j < x.length := by lia
          have hc := hl.cod_x hjl
          rw [hp] at hc
          rw [hj, hc]
          intro e
          have : x[j] = 10 := by lia
          exact hl.free (this ▸ List.getElem_mem hjl)
        rw [if_neg (by lia), List.nil_append] at e0
        unfold starts
        rw [hlb, if_neg (by decide), h.nx hal h1, e0]
        cases r with
        | nil => rw [if_pos rfl]; cases hi <;> rfl
        | cons y r =>
          rw [if_neg (by simp), st_eq h.next.1 (by lia)]
          refine List.filter_congr fun i hi => ?_
          rw [decide_eq_true (show lo ≤ i by have := lst_ge hi; lia), Bool.true_and]
      · cases r with
        | nil =>
          have hlen := congrArg List.length hl.eq
          rw [List.length_append, List.length_append, hp, q1 rfl] at hlen
          simp at hlen; lia
        | cons y r =>
          rw [e0, if_neg (by lia), List.nil_append]
          exact starts_eq hlo h.next.1 (by lia)
/-- what an edit of a line must be -/
noncomputable def LineEd (E : Nat → Edit) (g : List Nat → List Nat) (i : Nat) (x : List Nat) : Prop :=
  (E i).1 = i ∧ i ≤ (E i).2.1 ∧ (E i).2.1 ≤ i + x.length ∧ (E i).2.2 ++ x.drop ((E i).2.1 - i) = g x
theorem trL_ne {lo hi : Nat} {g : List Nat → List Nat} {a : Nat} {y : List Nat} {r : List (List Nat)} : trL lo hi g a (y :: r) ≠ [] := by unfold trL; simp
theorem edits_asm {t : List Nat} {lo hi : Nat} {E : Nat → Edit} {g : List Nat → List Nat} (hE : ∀ p x q, Line t p x q → LineEd E g p.length x) : ∀ {L : List (List Nat)} {a : Nat}, Rem t a L →
    Asc t a (((lst a L).filter fun i => decide (lo ≤ i) && decide (i < hi)).map E) ∧ asm t a (((lst a L).filter fun i => decide (lo ≤ i) && decide (i < hi)).map E) = unl (trL lo hi g a L)
  | [], a, h => absurd rfl h.ne
  | x :: r, a, h => by
    obtain ⟨q, hl, q1, q2⟩ := h.line
    have hp : (t.take a).length = a := take_len h.le
    have he := hE _ x q hl
    rw [hp] at he
    obtain ⟨e1, e2, e3, e4⟩ := he
    have hdr := hl.drop
    rw [hp] at hdr
    have hlen := congrArg List.length hl.eq
    rw [List.length_append, List.length_append, hp] at hlen
    have e0 : (lst a (x :: r)).filter (fun i => decide (lo ≤ i) && decide (i < hi)) = (if lo ≤ a ∧ a < hi then [a] else []) ++ (lst (a + x.length + 1) r).filter fun i => decide (lo ≤ i) && decide (i < hi) := by
      show List.filter _ (a :: lst (a + x.length + 1) r) = _
      rw [List.filter_cons]
      by_cases hc : lo ≤ a ∧ a < hi
      · rw [if_pos hc, if_pos (by simp [hc])]; rfl
      · rw [if_neg hc, if_neg (by simpa using hc)]; rfl
    have hda : (t.take a).drop a = [] := List.drop_of_length_le (by rw [hp]; exact Nat.le_refl _)
    have hde : t.drop (E a).2.1 = x.drop ((E a).2.1 - a) ++ q := by
      have : t.drop (E a).2.1 = (t.drop a).drop ((E a).2.1 - a) := by rw [List.drop_drop]; congr 1; lia
      rw [this, hdr, List.drop_append_of_le_length (by lia)]
    rw [e0, List.map_append]
    cases r with
    | nil =>
      rw [q1 rfl, List.append_nil] at hde
      by_cases hc : lo ≤ a ∧ a < hi
      · rw [if_pos hc]
        refine ⟨⟨by rw [e1]; exact Nat.le_refl _, by rw [e1]; exact e2, by rw [q1 rfl] at hlen; simp at hlen; show (E a).2.1 ≤ t.length; lia⟩, ?_⟩
        show (t.take (E a).1).drop a ++ (E a).2.2 ++ t.drop (E a).2.1 = unl (trL lo hi g a [x])
        rw [e1, hda, hde, List.nil_append, e4]
        unfold trL; rw [if_pos hc]; rfl
      · rw [if_neg hc]
        refine ⟨h.le, ?_⟩
        show t.drop a = _
        rw [hdr, q1 rfl, List.append_nil]
        unfold trL; rw [if_neg hc]; rfl
    | cons y r =>
      obtain ⟨hr, hlt⟩ := h.next
      obtain ⟨ih1, ih2⟩ := edits_asm (lo := lo) (hi := hi) hE hr
      generalize (List.filter (fun i => decide (lo ≤ i) && decide (i < hi)) (lst (a + x.length + 1) (y :: r))).map E = es at *
      have hx10 : t.take (a + x.length + 1) = t.take a ++ (x ++ [10]) := by
        have h3 : t.take (a + x.length + 1) = (t.take a ++ (x ++ [10]) ++ unl (y :: r)).take (a + x.length + 1) := by
          congr 1
          conv => lhs; rw [hl.eq, q2 (by simp)]
          simp
        rw [h3, List.take_left' (by rw [List.length_append, hp, List.length_append]; simp; lia)]
      have sh : ∀ k, a ≤ k → k ≤ a + x.length → asm t k es = (x.drop (k - a) ++ [10]) ++ unl (trL lo hi g (a + x.length + 1) (y :: r)) := fun k h1 h2 => by
        rw [asm_shift (by lia) ih1, ih2, hx10]
        congr 1
        have h5 : (t.take a ++ (x ++ [10])).drop k = (x ++ [10]).drop (k - a) := by
          rw [List.drop_append, List.drop_of_length_le (by rw [hp]; exact h1), hp]; rfl
        rw [h5, List.drop_append_of_le_length (by lia)]
      have asc : ∀ k, k ≤ a + x.length → Asc t k es := fun k h2 => by
        cases es with
        | nil => show k ≤ t.length; lia
        | cons e es => exact ⟨Nat.le_trans (by lia) ih1.1, ih1.2⟩
      by_cases hc : lo ≤ a ∧ a < hi
      · rw [if_pos hc]
        refine ⟨⟨by rw [e1]; exact Nat.le_refl _, by rw [e1]; exact e2, asc _ e3⟩, ?_⟩
        show (t.take (E a).1).drop a ++ (E a).2.2 ++ asm t (E a).2.1 es = _
        rw [e1, hda, List.nil_append, sh _ e2 e3, ← List.append_assoc, ← List.append_assoc, e4]
        conv => rhs; unfold trL
        rw [if_pos hc, unl_cons trL_ne, List.append_assoc]; rfl
      · rw [if_neg hc]
        refine ⟨asc a (Nat.le_add_right _ _), ?_⟩
        show asm t a es = _
        rw [sh a (Nat.le_refl _) (Nat.le_add_right _ _), Nat.sub_self]
        conv => rhs; unfold trL
        rw [if_neg hc, unl_cons trL_ne, List.append_assoc]; rfl
theorem region_ok {t : List Nat} {lo hi : Nat} (hlo : lo ≤ t.length) {E : Nat → Edit} {g : List Nat → List Nat} (hE : ∀ p x q, Line t p x q → LineEd E g p.length x) : done t ((starts t lo hi).map E).reverse = trn t lo hi g := by
  rw [starts_eq hlo (Rem.start t) (Nat.zero_le _)]
  obtain ⟨h1, h2⟩ := edits_asm (lo := lo) (hi := hi) hE (Rem.start t)
  rw [done_asm h1, h2]; rfl
end Mine

end
section
open PySem PySem.W PyProof.Rows
namespace Mine
open PySem PySem.Calls PySem.W PyProof.Rows PySem.Builtin.Str
variable {c : Cx}
set_option maxRecDepth 100000
set_option maxHeartbeats 1000000
structure PlainC (t : List Nat) (w : Nat) (lo hi : Nat) : Prop where
  unE : ∀ e ∈ untabE w t lo (hi - lo), EdOk e
  unt : done t (untabE w t lo (hi - lo)).reverse = plU w t lo hi t.length
  plB : ∀ k, k ≤ t.length → (plU w t lo hi k).length ≤ 100000
noncomputable def fr2 (d : Addr) (t : List Nat) (f : Int) (lo hi : Nat) (s : List Nat) : List (Option PV) := some (.raw (.ref d)) :: some (.str t) :: some (.int f) :: some (vw t f) :: some (.int lo) :: some (.int hi) :: none :: none :: none :: some (.str s) :: List.replicate 22 none
theorem ed_listP (es : List Edit) (f : Int) : PV.list ((es.map fun e => edt f e).reverse) = .list (es.reverse.map (edt f)) := by rw [List.map_reverse]
theorem hdL_len (t : List Nat) (i : Nat) : (hdL t i).length ≤ t.length := by
  unfold hdL; rw [List.length_drop, List.length_take]; lia
theorem last_split {t : List Nat} {i : Nat} (h : i ≤ t.length) : ((spl (t.take i)).map PV.str).getLast? = some (.str (hdL t i)) := by
  rw [List.getLast?_map, last_hdL h]; rfl
theorem chunkC (K : KOk c) {L1 L2 L3 : Addr} (X : LX c L1 L2 L3) (hX : LawX X) {z : Addr × CV} {d : Addr} {ns : List Int} {τ : Cells} {t : List Nat} {f : Int} {w : Nat} {tabs : Bool} {lby : Int} {lo hi : Nat} (hln : t.length ≤ 17) (hf : 1 ≤ f ∧ f ≤ 3) (hw : 0 < w ∧ w ≤ 8) (hlh : lo ≤ hi) (hhi : hi ≤ t.length)
    (hC : PlainC t w lo hi) {N : List (Option PV) → Cells → Prop} {R : PV → Cells → Prop}
    (hr : Ex X (fr1 d t f lo hi) (cl0 z d ns L1 L2 L3 (some (.int lby)) (some (.bool tabs)) (some (.int w)) τ) (lbody.drop 12) N R) :
    Ex X (fr1 d t f lo hi) (cl0 z d ns L1 L2 L3 (some (.int lby)) (some (.bool tabs)) (some (.int w)) τ) (lbody.drop 9) N R := by
  refine ex_assign (ev_str (l := []) rfl) (by repeat first | exact SetAt.head | apply SetAt.tail) ?_
  refine ex_for (n := t.length) (item := fun i => .int i) (fun i vs cs => vs = fr2 d t f lo hi (plU w t lo hi i) ∧ cs = cl0 z d ns L1 L2 L3 (some (.int lby)) (some (.bool tabs)) (some (.int w)) τ) ?_ ⟨rfl, rfl⟩ (fun i vs cs hil hJ => ?_) (fun vs cs hJ => ?_)
  · exact src_range1 (hi := ((t.length : Nat) : Int)) (ev_builtin (by repeat first | exact List.Mem.head _ | apply List.Mem.tail) K.g_range rfl (by decide)) (el_cons (ev_callB (ev_builtin (by repeat first | exact List.Mem.head _ | apply List.Mem.tail) K.g_len rfl (by decide)) (el_cons (ev_local (by repeat first | exact GetAt.head | apply GetAt.tail)) el_nil) (by first | exact bi_len_list (by first | assumption | lia | (simp; done) | (simp; lia)) | exact bi_len_str (by first | assumption | lia | (simp; done) | (simp; lia)) | exact bi_abs | exact bi_max | exact bi_min | exact bi_chr (by first | assumption | lia | (simp; done) | (simp; lia)) (by first | assumption | lia | (simp; done) | (simp; lia)) | exact bi_ord | exact bi_lstrip (by first | assumption | lia | (simp; done) | (simp; lia)) | exact bi_rstrip (by first | assumption | lia | (simp; done) | (simp; lia)) | exact bi_strip (by first | assumption | lia | (simp; done) | (simp; lia)) | exact bi_count | exact bi_expandtabs (by first | assumption | lia | (simp; done) | (simp; lia)) (by first | assumption | lia | (simp; done) | (simp; lia)) (by first | assumption | lia | (simp; done) | (simp; lia)) | exact bi_split (by first | assumption | lia | (simp; done) | (simp; lia)) | exact bi_sorted2)) el_nil) (by lia)
  · obtain ⟨rfl, rfl⟩ := hJ
    have hd := hdL_len t i
    have hg : t.getD i 0 = t[i] := by simp [hil]
    have hm := mod_bd (a := colOf w (hdL t i)) (w := (w : Int)) (by lia)
    have hpl := hC.plB i (by lia)
    refine ⟨_, by (repeat first | exact SetAt.head | apply SetAt.tail), fun z2 => ?_⟩
    refine ex_assign (ev_last (ev_smeth PySem.F.slot_str_split PySem.F.type_str_split (ev_conv (ev_cut_str (ev_local (by repeat first | exact GetAt.head | apply GetAt.tail)) eo_none (eo_some (ev_local (by repeat first | exact GetAt.head | apply GetAt.tail))) (by lia)) (q := .str (t.take i)) (by rw [cut_take _ (by lia)]; rfl)) (el_cons (ev_str (l := [10]) rfl) el_nil) (by first | exact bi_len_list (by first | assumption | lia | (simp; done) | (simp; lia)) | exact bi_len_str (by first | assumption | lia | (simp; done) | (simp; lia)) | exact bi_abs | exact bi_max | exact bi_min | exact bi_chr (by first | assumption | lia | (simp; done) | (simp; lia)) (by first | assumption | lia | (simp; done) | (simp; lia)) | exact bi_ord | exact bi_lstrip (by first | assumption | lia | (simp; done) | (simp; lia)) | exact bi_rstrip (by first | assumption | lia | (simp; done) | (simp; lia)) | exact bi_strip (by first | assumption | lia | (simp; done) | (simp; lia)) | exact bi_count | exact bi_expandtabs (by first | assumption | lia | (simp; done) | (simp; lia)) (by first | assumption | lia | (simp; done) | (simp; lia)) (by first | assumption | lia | (simp; done) | (simp; lia)) | exact bi_split (by first | assumption | lia | (simp; done) | (simp; lia)) | exact bi_sorted2)) (ev_neg ev_int) (by simp; exact Nat.lt_of_le_of_lt (spl_length _) (by rw [List.length_take]; lia)) (last_split (by lia))) (by repeat first | exact SetAt.head | apply SetAt.tail) ?_
    refine ex_assign (ev_bin (ev_cell (by repeat first | exact List.Mem.head _ | apply List.Mem.tail) (by repeat first | exact List.Mem.head _ | apply List.Mem.tail)) (ev_bin (ev_call0 (ev_globalR (by repeat first | exact List.Mem.head _ | apply List.Mem.tail) K.g_law_column_of) K.d_law_column_of.isFn (el_cons (ev_local (by repeat first | exact GetAt.head | apply GetAt.tail)) (el_cons (ev_cell (by repeat first | exact List.Mem.head _ | apply List.Mem.tail) (by repeat first | exact List.Mem.head _ | apply List.Mem.tail)) el_nil)) (K.f_column_of (by lia) (by lia)) (by decide)) (ev_cell (by repeat first | exact List.Mem.head _ | apply List.Mem.tail) (by repeat first | exact List.Mem.head _ | apply List.Mem.tail)) (by first | exact op_add | exact op_sub | exact op_mod (by first | assumption | lia | (simp; done) | (simp; lia)) | exact op_div (by first | assumption | lia | (simp; done) | (simp; lia)) (PyProof.noPylong_small (by lia)) | exact op_mul (mul_okR (by lia)) | exact op_mul (mul_okL (by lia)) | exact op_adds (by first | assumption | lia | (simp; done) | (simp; lia)) | exact op_addl (by first | assumption | lia | (simp; done) | (simp; lia)) | exact op_muls (by first | assumption | lia | (simp; done) | (simp; lia)) (by first | assumption | lia | (simp; done) | (simp; lia)) | exact op_mull (by first | assumption | lia | (simp; done) | (simp; lia)) (by first | assumption | lia | (simp; done) | (simp; lia)) (by first | assumption | lia | (simp; done) | (simp; lia)))) (by first | exact op_add | exact op_sub | exact op_mod (by first | assumption | lia | (simp; done) | (simp; lia)) | exact op_div (by first | assumption | lia | (simp; done) | (simp; lia)) (PyProof.noPylong_small (by lia)) | exact op_mul (mul_okR (by lia)) | exact op_mul (mul_okL (by lia)) | exact op_adds (by first | assumption | lia | (simp; done) | (simp; lia)) | exact op_addl (by first | assumption | lia | (simp; done) | (simp; lia)) | exact op_muls (by first | assumption | lia | (simp; done) | (simp; lia)) (by first | assumption | lia | (simp; done) | (simp; lia)) | exact op_mull (by first | assumption | lia | (simp; done) | (simp; lia)) (by first | assumption | lia | (simp; done) | (simp; lia)) (by first | assumption | lia | (simp; done) | (simp; lia)))) (by repeat first | exact SetAt.head | apply SetAt.tail) ?_
    have hpc : (if t.getD i 0 = 9 ∧ lo ≤ i ∧ i < hi then List.replicate ((w : Int) - colOf w (hdL t i) % w).toNat 32 else [t.getD i 0]).length ≤ 8 := by
      split
      · rw [List.length_replicate]; lia
      · show 1 ≤ 8; lia
    refine ex_assign (p := .str (plU w t lo hi (i + 1))) (ev_bin (ev_local (by repeat first | exact GetAt.head | apply GetAt.tail)) (ev_if (p := .str (if t.getD i 0 = 9 ∧ lo ≤ i ∧ i < hi then List.replicate ((w : Int) - colOf w (hdL t i) % w).toNat 32 else [t.getD i 0])) (et_and (et_cmp (ev_sign (ev_local (by repeat first | exact GetAt.head | apply GetAt.tail)) (ev_local (by repeat first | exact GetAt.head | apply GetAt.tail)) (by lia) (by lia) (show t[((i : Int)).toNat]? = some (t.getD i 0) by simp [hil])) (ev_str (l := [9]) rfl) (by first | exact cp_lt | exact cp_le | exact cp_gt | exact cp_ge | exact cp_eq | exact cp_ne | exact cp_eqs | exact cp_nes | exact cp_eqb | exact cp_in_tup | exact cp_notin_tup | exact cp_in_str | exact cp_notin_str)) (fun hb => (et_cmp2 (ev_local (by repeat first | exact GetAt.head | apply GetAt.tail)) (ev_local (by repeat first | exact GetAt.head | apply GetAt.tail)) (by first | exact cp_lt | exact cp_le | exact cp_gt | exact cp_ge | exact cp_eq | exact cp_ne | exact cp_eqs | exact cp_nes | exact cp_eqb | exact cp_in_tup | exact cp_notin_tup | exact cp_in_str | exact cp_notin_str) (fun hc => (ev_local (by repeat first | exact GetAt.head | apply GetAt.tail))) (by first | exact cp_lt | exact cp_le | exact cp_gt | exact cp_ge | exact cp_eq | exact cp_ne | exact cp_eqs | exact cp_nes | exact cp_eqb | exact cp_in_tup | exact cp_notin_tup | exact cp_in_str | exact cp_notin_str)))) (fun hT => ev_conv (ev_bin (ev_str (l := [32]) rfl) (ev_local (by repeat first | exact GetAt.head | apply GetAt.tail)) (by first | exact op_add | exact op_sub | exact op_mod (by first | assumption | lia | (simp; done) | (simp; lia)) | exact op_div (by first | assumption | lia | (simp; done) | (simp; lia)) (PyProof.noPylong_small (by lia)) | exact op_mul (mul_okR (by lia)) | exact op_mul (mul_okL (by lia)) | exact op_adds (by first | assumption | lia | (simp; done) | (simp; lia)) | exact op_addl (by first | assumption | lia | (simp; done) | (simp; lia)) | exact op_muls (by first | assumption | lia | (simp; done) | (simp; lia)) (by first | assumption | lia | (simp; done) | (simp; lia)) | exact op_mull (by first | assumption | lia | (simp; done) | (simp; lia)) (by first | assumption | lia | (simp; done) | (simp; lia)) (by first | assumption | lia | (simp; done) | (simp; lia)))) ?_) (fun hF => ev_conv (ev_sign (ev_local (by repeat first | exact GetAt.head | apply GetAt.tail)) (ev_local (by repeat first | exact GetAt.head | apply GetAt.tail)) (by lia) (by lia) (show t[((i : Int)).toNat]? = some (t.getD i 0) by simp [hil])) ?_)) (op_adds (by lia))) (by repeat first | exact SetAt.head | apply SetAt.tail) (ex_nil ⟨_, _, rfl, .keep (.keep (.keep (.keep (.keep (.keep (.keep (.keep (.keep (.keep (.drop (.drop (.drop (Fsub.refl _))))))))))))), rfl, rfl⟩)
    · rw [if_pos]
      simp only [Bool.and_eq_true, decide_eq_true_eq] at hT
      have h9 : [t.getD i 0] = [9] := hT.1
      exact ⟨by simpa using h9, by lia, by lia⟩
    · rw [if_neg]
      intro hq
      have : (decide ([t.getD i 0] = [9]) && (decide ((lo : Int) ≤ i) && decide ((i : Int) < hi))) = true := by
        simp only [Bool.and_eq_true, decide_eq_true_eq]
        exact ⟨by rw [hq.1], by lia, by lia⟩
      rw [this] at hF; cases hF
  · obtain ⟨rfl, rfl⟩ := hJ
    refine ex_if (et_cmp (ev_call0 (ev_globalR (by repeat first | exact List.Mem.head _ | apply List.Mem.tail) K.g_law_done) K.d_law_done.isFn (el_cons (ev_local (by repeat first | exact GetAt.head | apply GetAt.tail)) (el_cons (ev_call0 (ev_globalR (by repeat first | exact List.Mem.head _ | apply List.Mem.tail) K.g_untabify_edits) K.d_untabify_edits.isFn (el_cons (ev_local (by repeat first | exact GetAt.head | apply GetAt.tail)) (el_cons (ev_bin (ev_local (by repeat first | exact GetAt.head | apply GetAt.tail)) (ev_local (by repeat first | exact GetAt.head | apply GetAt.tail)) (by first | exact op_add | exact op_sub | exact op_mod (by first | assumption | lia | (simp; done) | (simp; lia)) | exact op_div (by first | assumption | lia | (simp; done) | (simp; lia)) (PyProof.noPylong_small (by lia)) | exact op_mul (mul_okR (by lia)) | exact op_mul (mul_okL (by lia)) | exact op_adds (by first | assumption | lia | (simp; done) | (simp; lia)) | exact op_addl (by first | assumption | lia | (simp; done) | (simp; lia)) | exact op_muls (by first | assumption | lia | (simp; done) | (simp; lia)) (by first | assumption | lia | (simp; done) | (simp; lia)) | exact op_mull (by first | assumption | lia | (simp; done) | (simp; lia)) (by first | assumption | lia | (simp; done) | (simp; lia)) (by first | assumption | lia | (simp; done) | (simp; lia)))) (el_cons (ev_bin (ev_local (by repeat first | exact GetAt.head | apply GetAt.tail)) (ev_local (by repeat first | exact GetAt.head | apply GetAt.tail)) (by first | exact op_add | exact op_sub | exact op_mod (by first | assumption | lia | (simp; done) | (simp; lia)) | exact op_div (by first | assumption | lia | (simp; done) | (simp; lia)) (PyProof.noPylong_small (by lia)) | exact op_mul (mul_okR (by lia)) | exact op_mul (mul_okL (by lia)) | exact op_adds (by first | assumption | lia | (simp; done) | (simp; lia)) | exact op_addl (by first | assumption | lia | (simp; done) | (simp; lia)) | exact op_muls (by first | assumption | lia | (simp; done) | (simp; lia)) (by first | assumption | lia | (simp; done) | (simp; lia)) | exact op_mull (by first | assumption | lia | (simp; done) | (simp; lia)) (by first | assumption | lia | (simp; done) | (simp; lia)) (by first | assumption | lia | (simp; done) | (simp; lia)))) (el_cons (ev_cell (by repeat first | exact List.Mem.head _ | apply List.Mem.tail) (by repeat first | exact List.Mem.head _ | apply List.Mem.tail)) el_nil)))) (fp_conv (K.f_untabify_edits t f lo hi (by lia) (by lia) (by lia) hlh hhi rfl rfl) rfl (ed_listP _ _)) (by decide)) (el_cons (ev_local (by repeat first | exact GetAt.head | apply GetAt.tail)) el_nil))) (K.f_done (by lia) (by rw [List.length_reverse]; have := untabE_length w t lo (hi - lo); lia) (by lia) (done_args hC.unE)) (by decide)) (ev_local (by repeat first | exact GetAt.head | apply GetAt.tail)) (by first | exact cp_lt | exact cp_le | exact cp_gt | exact cp_ge | exact cp_eq | exact cp_ne | exact cp_eqs | exact cp_nes | exact cp_eqb | exact cp_in_tup | exact cp_notin_tup | exact cp_in_str | exact cp_notin_str)) (fun hb => ?_) (fun _ => ?_)
    · rw [hC.unt] at hb; simp at hb
    · exact ex_fsub (.keep (.keep (.keep (.keep (.keep (.keep (.keep (.keep (.keep (.drop (Fsub.refl _))))))))))) hr
end Mine

end
section
open PySem PySem.W PyProof.Rows
namespace Mine
open PySem PySem.Calls PySem.W PyProof.Rows PySem.Builtin.Str
variable {c : Cx}
set_option maxRecDepth 100000
set_option maxHeartbeats 1000000
/-- the blanks ahead of a text -/
noncomputable def runL (l : List Nat) : List Nat := l.takeWhile bl
structure PlainD (t : List Nat) (w : Nat) (lo hi : Nat) (n : List Nat) : Prop where
  tbE : ∀ e ∈ Mine.tabE w t hi t.length lo, EdOk e
  new : done t (Mine.tabE w t hi t.length lo).reverse = n
  len : n.length ≤ 10000
  low : Low n ∧ Low t
  exLow : ∀ l : List Nat, Low l → Low (expt w 0 l)
  exp : (spl n).map (expt w 0) = (spl t).map (expt w 0)
  size : lo + (t.length - hi) ≤ n.length
  head : n.take lo = t.take lo
  tail : n.drop (n.length - (t.length - hi)) = t.drop hi
  run : ∀ s, lo ≤ s → s + 1 < n.length - (t.length - hi) → n.getD s 0 = 32 → bl (n.getD (s + 1) 0) = true → (s = lo ∨ bl (n.getD (s - 1) 0) = false) →
    colOf w (hdL n s) / w = colOf w (hdL n s ++ lead ((n.take (n.length - (t.length - hi))).drop s)) / w
noncomputable def fr3 (d : Addr) (t : List Nat) (f : Int) (lo hi : Nat) (n : List Nat) : List (Option PV) := some (.raw (.ref d)) :: some (.str t) :: some (.int f) :: some (vw t f) :: some (.int lo) :: some (.int hi) :: none :: none :: none :: none :: none :: none :: none :: some (.str n) :: some (.int ((t.length : Int) - hi)) :: List.replicate 17 none
theorem bl_in (n : Nat) : [32, 9].contains n = bl n := by
  unfold bl; simp only [List.contains_cons, List.contains_nil, Bool.or_false]
theorem cut_len {n m : Nat} (h : m ≤ n) : (((n : Nat) : Int) - ((m : Nat) : Int)).toNat = n - m := by lia
theorem mem_of_spl {t y : List Nat} : y ∈ spl t → ∀ {m : Nat}, m ∈ y → m ∈ t := by
  induction t generalizing y with
  | nil => intro h m hm; simp [spl] at h; subst h; cases hm
  | cons a r ih =>
    intro h m hm
    unfold spl at h
    split at h
    · rcases List.mem_cons.mp h with rfl | h
      · cases hm
      · exact .tail _ (ih h hm)
    · revert h ih
      cases spl r with
      | nil => intro ih h; simp at h; subst h; simp at hm; subst hm; exact .head _
      | cons x xs =>
        intro ih h
        rcases List.mem_cons.mp h with rfl | h
        · rcases List.mem_cons.mp hm with rfl | hm
          · exact .head _
          · exact .tail _ (ih (.head _) hm)
        · exact .tail _ (ih (.tail _ h) hm)
theorem ev_expts (K : KOk c) {L1 L2 L3 : Addr} {X : LX c L1 L2 L3} (hX : LawX X) {vs : List (Option PV)} {z : Addr × CV} {d : Addr} {ns : List Int} {τ : Cells} {w : Nat} {o1 o2 : Option PV} (hw : 0 < w ∧ w ≤ 8) {l : List Nat} (hl : l.length ≤ 10000) {e : Expr} {p1 p2 p3 p4 p5 p6 : Pos} {scope : Scope}
    (hs : scope = { kind := .function, names := [(ks ".0", .local), (ks "_law_line", .local), (ks "_law_width", .free)], isGenerator := false, isCoroutine := false })
    (h : Ev X vs (cl0 z d ns L1 L2 L3 o1 o2 (some (.int w)) τ) e (.list ((spl l).map PV.str)) (cl0 z d ns L1 L2 L3 o1 o2 (some (.int w)) τ)) (hline : (p2.endLine == p4.line) = true) (hfs : ∀ v, foldedSetIterable e X.env v = pure v) :
    Ev X vs (cl0 z d ns L1 L2 L3 o1 o2 (some (.int w)) τ) (.ListComp (.Call (.Attribute (.Name (ks "_law_line") p1) (ks "expandtabs") p2) [.Name (ks "_law_width") p3] [] p4) [⟨.Name (ks "_law_line") p5, e, [], 0⟩] scope p6) (.list (((spl l).map (expt w 0)).map PV.str)) (cl0 z d ns L1 L2 L3 o1 o2 (some (.int w)) τ) := by
  subst hs
  have hsl : ((spl l).map PV.str).length = (spl l).length := by simp
  have hl1 := spl_length l
  have hsum := spl_sum l
  refine ev_conv (ev_comp (n := (spl l).length) (item := fun i => .str ((spl l).getD i [])) (gl' := []) (cl' := [(ks "_law_width", L3)]) (clo := [(ks "_law_width", L3)]) (fun _ => cl0 z d ns L1 L2 L3 o1 o2 (some (.int w)) τ) (fun i => (((spl l).take i).map (expt w 0)).map PV.str)
    ⟨by unfold closureFor cellOf; rw [hX.cells]; rfl, by decide, rfl, by decide, rfl, by decide, fun y hy => by
      simp only [List.mem_cons, List.not_mem_nil, or_false] at hy
      subst hy; exact ⟨rfl, rfl⟩⟩ (by rw [← hsl]; exact (src_list h).conv fun i hi => by rw [hsl] at hi; simp [List.getD, hi]) (by rw [List.take_zero]; rfl) (fun i _ => by simp; lia) (fun _ => rfl) (fun i hi X' eA eS z1 z2 => ?_) hfs) (by rw [List.take_length])
  have hg : (spl l).getD i [] = (spl l)[i] := by simp [hi]
  have hx : (spl l)[i].length ≤ l.length := by
    have h1 : (spl l)[i].length + 1 ≤ ((spl l).map fun x => x.length + 1).sum := le_sum_mem _ (List.mem_map.mpr ⟨_, List.getElem_mem hi, rfl⟩)
    lia
  have hxw : (spl l)[i].length * w ≤ 10000 * 8 := Nat.mul_le_mul (by lia) hw.2
  refine ⟨true, .inl ⟨rfl, rfl⟩, .inr ⟨rfl, .str (expt w 0 ((spl l).getD i [])), ?_, ?_⟩⟩
  · show (((spl l).take (i + 1)).map (expt w 0)).map PV.str = _
    rw [hg, ← List.take_append_getElem hi, List.map_append, List.map_append]; rfl
  · refine ev_smeth PySem.F.slot_str_expandtabs PySem.F.type_str_expandtabs (ev_local (by repeat first | exact GetAt.head | apply GetAt.tail)) (el_cons (ev_cell (by repeat first | exact List.Mem.head _ | apply List.Mem.tail) (by repeat first | exact List.Mem.head _ | apply List.Mem.tail)) el_nil) (bi_expandtabs (by lia) (by lia) (by rw [hg]; lia)) rfl hline rfl (show 1 < 30 by decide)
theorem run_cut {n : List Nat} {m s : Nat} (hm : m ≤ n.length) : (n.take (s + (lead ((n.take m).drop s)).length)).drop s = lead ((n.take m).drop s) := by
  have h1 : (n.take m).drop s = (n.drop s).take (m - s) := by rw [List.drop_take]
  have h2 : (n.take (s + (lead ((n.take m).drop s)).length)).drop s = (n.drop s).take (lead ((n.take m).drop s)).length := by rw [List.drop_take]; congr 1; lia
  rw [h2, h1]
  have hp : lead ((n.drop s).take (m - s)) <+: n.drop s := (List.takeWhile_prefix _).trans (List.take_prefix _ _)
  exact (List.prefix_iff_eq_take.mp hp).symm
theorem lead_len (l : List Nat) : ((l.length : Nat) : Int) - ((lstr l).length : Nat) = ((lead l).length : Nat) := by
  have h := List.takeWhile_append_dropWhile (p := bl) (l := l)
  have h2 : (lead l).length + (lstr l).length = l.length := by unfold lead lstr; rw [← List.length_append]; exact congrArg List.length h
  lia
theorem chunkD (K : KOk c) {L1 L2 L3 : Addr} (X : LX c L1 L2 L3) (hX : LawX X) {z : Addr × CV} {d : Addr} {ns : List Int} {τ : Cells} {t n : List Nat} {f : Int} {w : Nat} {tabs : Bool} {lby : Int} {lo hi : Nat} (hln : t.length ≤ 17) (hf : 1 ≤ f ∧ f ≤ 3) (hw : 0 < w ∧ w ≤ 8) (hlh : lo ≤ hi) (hhi : hi ≤ t.length)
    (hD : PlainD t w lo hi n) {N : List (Option PV) → Cells → Prop} {R : PV → Cells → Prop}
    (hr : Ex X (fr1 d t f lo hi) (cl0 z d ns L1 L2 L3 (some (.int lby)) (some (.bool tabs)) (some (.int w)) τ) (lbody.drop 17) N R) :
    Ex X (fr1 d t f lo hi) (cl0 z d ns L1 L2 L3 (some (.int lby)) (some (.bool tabs)) (some (.int w)) τ) (lbody.drop 12) N R := by
  have hnl := hD.len
  have hsz := hD.size
  refine ex_assign (p := .str n) (ev_conv (ev_call0 (ev_globalR (by repeat first | exact List.Mem.head _ | apply List.Mem.tail) K.g_law_done) K.d_law_done.isFn (el_cons (ev_local (by repeat first | exact GetAt.head | apply GetAt.tail)) (el_cons (ev_call0 (ev_globalR (by repeat first | exact List.Mem.head _ | apply List.Mem.tail) K.g_tabify_edits) K.d_tabify_edits.isFn (el_cons (ev_local (by repeat first | exact GetAt.head | apply GetAt.tail)) (el_cons (ev_bin (ev_local (by repeat first | exact GetAt.head | apply GetAt.tail)) (ev_local (by repeat first | exact GetAt.head | apply GetAt.tail)) (by first | exact op_add | exact op_sub | exact op_mod (by first | assumption | lia | (simp; done) | (simp; lia)) | exact op_div (by first | assumption | lia | (simp; done) | (simp; lia)) (PyProof.noPylong_small (by lia)) | exact op_mul (mul_okR (by lia)) | exact op_mul (mul_okL (by lia)) | exact op_adds (by first | assumption | lia | (simp; done) | (simp; lia)) | exact op_addl (by first | assumption | lia | (simp; done) | (simp; lia)) | exact op_muls (by first | assumption | lia | (simp; done) | (simp; lia)) (by first | assumption | lia | (simp; done) | (simp; lia)) | exact op_mull (by first | assumption | lia | (simp; done) | (simp; lia)) (by first | assumption | lia | (simp; done) | (simp; lia)) (by first | assumption | lia | (simp; done) | (simp; lia)))) (el_cons (ev_bin (ev_local (by repeat first | exact GetAt.head | apply GetAt.tail)) (ev_local (by repeat first | exact GetAt.head | apply GetAt.tail)) (by first | exact op_add | exact op_sub | exact op_mod (by first | assumption | lia | (simp; done) | (simp; lia)) | exact op_div (by first | assumption | lia | (simp; done) | (simp; lia)) (PyProof.noPylong_small (by lia)) | exact op_mul (mul_okR (by lia)) | exact op_mul (mul_okL (by lia)) | exact op_adds (by first | assumption | lia | (simp; done) | (simp; lia)) | exact op_addl (by first | assumption | lia | (simp; done) | (simp; lia)) | exact op_muls (by first | assumption | lia | (simp; done) | (simp; lia)) (by first | assumption | lia | (simp; done) | (simp; lia)) | exact op_mull (by first | assumption | lia | (simp; done) | (simp; lia)) (by first | assumption | lia | (simp; done) | (simp; lia)) (by first | assumption | lia | (simp; done) | (simp; lia)))) (el_cons (ev_cell (by repeat first | exact List.Mem.head _ | apply List.Mem.tail) (by repeat first | exact List.Mem.head _ | apply List.Mem.tail)) el_nil)))) (fp_conv (K.f_tabify_edits t f lo hi (by lia) (by lia) (by lia) hlh hhi rfl rfl) rfl (ed_listP _ _)) (by decide)) (el_cons (ev_local (by repeat first | exact GetAt.head | apply GetAt.tail)) el_nil))) (K.f_done (by lia) (by rw [List.length_reverse]; have := tabE_length w t hi t.length lo; lia) (by lia) (done_args hD.tbE)) (by decide)) (by rw [hD.new])) (by repeat first | exact SetAt.head | apply SetAt.tail) ?_
  refine ex_assign (ev_bin (ev_callB (ev_builtin (by repeat first | exact List.Mem.head _ | apply List.Mem.tail) K.g_len rfl (by decide)) (el_cons (ev_local (by repeat first | exact GetAt.head | apply GetAt.tail)) el_nil) (by first | exact bi_len_list (by first | assumption | lia | (simp; done) | (simp; lia)) | exact bi_len_str (by first | assumption | lia | (simp; done) | (simp; lia)) | exact bi_abs | exact bi_max | exact bi_min | exact bi_chr (by first | assumption | lia | (simp; done) | (simp; lia)) (by first | assumption | lia | (simp; done) | (simp; lia)) | exact bi_ord | exact bi_lstrip (by first | assumption | lia | (simp; done) | (simp; lia)) | exact bi_rstrip (by first | assumption | lia | (simp; done) | (simp; lia)) | exact bi_strip (by first | assumption | lia | (simp; done) | (simp; lia)) | exact bi_count | exact bi_expandtabs (by first | assumption | lia | (simp; done) | (simp; lia)) (by first | assumption | lia | (simp; done) | (simp; lia)) (by first | assumption | lia | (simp; done) | (simp; lia)) | exact bi_split (by first | assumption | lia | (simp; done) | (simp; lia)) | exact bi_sorted2)) (ev_local (by repeat first | exact GetAt.head | apply GetAt.tail)) (by first | exact op_add | exact op_sub | exact op_mod (by first | assumption | lia | (simp; done) | (simp; lia)) | exact op_div (by first | assumption | lia | (simp; done) | (simp; lia)) (PyProof.noPylong_small (by lia)) | exact op_mul (mul_okR (by lia)) | exact op_mul (mul_okL (by lia)) | exact op_adds (by first | assumption | lia | (simp; done) | (simp; lia)) | exact op_addl (by first | assumption | lia | (simp; done) | (simp; lia)) | exact op_muls (by first | assumption | lia | (simp; done) | (simp; lia)) (by first | assumption | lia | (simp; done) | (simp; lia)) | exact op_mull (by first | assumption | lia | (simp; done) | (simp; lia)) (by first | assumption | lia | (simp; done) | (simp; lia)) (by first | assumption | lia | (simp; done) | (simp; lia)))) (by repeat first | exact SetAt.head | apply SetAt.tail) ?_
  refine ex_if (et_cmp (ev_expts K hX hw (l := n) (by lia) rfl (ev_smeth PySem.F.slot_str_split PySem.F.type_str_split (ev_local (by repeat first | exact GetAt.head | apply GetAt.tail)) (el_cons (ev_str (l := [10]) rfl) el_nil) (by first | exact bi_len_list (by first | assumption | lia | (simp; done) | (simp; lia)) | exact bi_len_str (by first | assumption | lia | (simp; done) | (simp; lia)) | exact bi_abs | exact bi_max | exact bi_min | exact bi_chr (by first | assumption | lia | (simp; done) | (simp; lia)) (by first | assumption | lia | (simp; done) | (simp; lia)) | exact bi_ord | exact bi_lstrip (by first | assumption | lia | (simp; done) | (simp; lia)) | exact bi_rstrip (by first | assumption | lia | (simp; done) | (simp; lia)) | exact bi_strip (by first | assumption | lia | (simp; done) | (simp; lia)) | exact bi_count | exact bi_expandtabs (by first | assumption | lia | (simp; done) | (simp; lia)) (by first | assumption | lia | (simp; done) | (simp; lia)) (by first | assumption | lia | (simp; done) | (simp; lia)) | exact bi_split (by first | assumption | lia | (simp; done) | (simp; lia)) | exact bi_sorted2)) rfl (fun _ => rfl)) (ev_expts K hX hw (l := t) (by lia) rfl (ev_smeth PySem.F.slot_str_split PySem.F.type_str_split (ev_local (by repeat first | exact GetAt.head | apply GetAt.tail)) (el_cons (ev_str (l := [10]) rfl) el_nil) (by first | exact bi_len_list (by first | assumption | lia | (simp; done) | (simp; lia)) | exact bi_len_str (by first | assumption | lia | (simp; done) | (simp; lia)) | exact bi_abs | exact bi_max | exact bi_min | exact bi_chr (by first | assumption | lia | (simp; done) | (simp; lia)) (by first | assumption | lia | (simp; done) | (simp; lia)) | exact bi_ord | exact bi_lstrip (by first | assumption | lia | (simp; done) | (simp; lia)) | exact bi_rstrip (by first | assumption | lia | (simp; done) | (simp; lia)) | exact bi_strip (by first | assumption | lia | (simp; done) | (simp; lia)) | exact bi_count | exact bi_expandtabs (by first | assumption | lia | (simp; done) | (simp; lia)) (by first | assumption | lia | (simp; done) | (simp; lia)) (by first | assumption | lia | (simp; done) | (simp; lia)) | exact bi_split (by first | assumption | lia | (simp; done) | (simp; lia)) | exact bi_sorted2)) rfl (fun _ => rfl)) (cp_nel (by decide) (fun x hx => ?_) (fun x hx => ?_))) (fun hb => ?_) (fun _ => ?_)
  · obtain ⟨y, hy, rfl⟩ := List.mem_map.mp hx
    exact hD.exLow y (fun m hm => hD.low.1 m (mem_of_spl hy hm))
  · obtain ⟨y, hy, rfl⟩ := List.mem_map.mp hx
    exact hD.exLow y (fun m hm => hD.low.2 m (mem_of_spl hy hm))
  · rw [hD.exp] at hb; simp at hb
  have hc1 : ∀ l : List Nat, cut l none (some (lo : Int)) = l.take lo := fun l => by rw [cut_take _ (by lia)]; rfl
  have hc2 : cut t (some (hi : Int)) none = t.drop hi := by rw [cut_drop _ (by lia)]; rfl
  have hc3 : cut n (some ((n.length : Int) - ((t.length : Int) - hi))) none = n.drop (n.length - (t.length - hi)) := by rw [cut_drop _ (by lia)]; congr 1; lia
  refine ex_if (et_or (et_cmp (ev_conv (ev_cut_str (ev_local (by repeat first | exact GetAt.head | apply GetAt.tail)) eo_none (eo_some (ev_local (by repeat first | exact GetAt.head | apply GetAt.tail))) (by lia)) (by rw [hc1])) (ev_conv (ev_cut_str (ev_local (by repeat first | exact GetAt.head | apply GetAt.tail)) eo_none (eo_some (ev_local (by repeat first | exact GetAt.head | apply GetAt.tail))) (by lia)) (by rw [hc1])) (by first | exact cp_lt | exact cp_le | exact cp_gt | exact cp_ge | exact cp_eq | exact cp_ne | exact cp_eqs | exact cp_nes | exact cp_eqb | exact cp_in_tup | exact cp_notin_tup | exact cp_in_str | exact cp_notin_str)) (fun hb => (et_cmp (ev_conv (ev_cut_str (ev_local (by repeat first | exact GetAt.head | apply GetAt.tail)) (eo_some (ev_bin (ev_callB (ev_builtin (by repeat first | exact List.Mem.head _ | apply List.Mem.tail) K.g_len rfl (by decide)) (el_cons (ev_local (by repeat first | exact GetAt.head | apply GetAt.tail)) el_nil) (by first | exact bi_len_list (by first | assumption | lia | (simp; done) | (simp; lia)) | exact bi_len_str (by first | assumption | lia | (simp; done) | (simp; lia)) | exact bi_abs | exact bi_max | exact bi_min | exact bi_chr (by first | assumption | lia | (simp; done) | (simp; lia)) (by first | assumption | lia | (simp; done) | (simp; lia)) | exact bi_ord | exact bi_lstrip (by first | assumption | lia | (simp; done) | (simp; lia)) | exact bi_rstrip (by first | assumption | lia | (simp; done) | (simp; lia)) | exact bi_strip (by first | assumption | lia | (simp; done) | (simp; lia)) | exact bi_count | exact bi_expandtabs (by first | assumption | lia | (simp; done) | (simp; lia)) (by first | assumption | lia | (simp; done) | (simp; lia)) (by first | assumption | lia | (simp; done) | (simp; lia)) | exact bi_split (by first | assumption | lia | (simp; done) | (simp; lia)) | exact bi_sorted2)) (ev_local (by repeat first | exact GetAt.head | apply GetAt.tail)) (by first | exact op_add | exact op_sub | exact op_mod (by first | assumption | lia | (simp; done) | (simp; lia)) | exact op_div (by first | assumption | lia | (simp; done) | (simp; lia)) (PyProof.noPylong_small (by lia)) | exact op_mul (mul_okR (by lia)) | exact op_mul (mul_okL (by lia)) | exact op_adds (by first | assumption | lia | (simp; done) | (simp; lia)) | exact op_addl (by first | assumption | lia | (simp; done) | (simp; lia)) | exact op_muls (by first | assumption | lia | (simp; done) | (simp; lia)) (by first | assumption | lia | (simp; done) | (simp; lia)) | exact op_mull (by first | assumption | lia | (simp; done) | (simp; lia)) (by first | assumption | lia | (simp; done) | (simp; lia)) (by first | assumption | lia | (simp; done) | (simp; lia))))) eo_none (by lia)) (by rw [hc3])) (ev_conv (ev_cut_str (ev_local (by repeat first | exact GetAt.head | apply GetAt.tail)) (eo_some (ev_local (by repeat first | exact GetAt.head | apply GetAt.tail))) eo_none (by lia)) (by rw [hc2])) (by first | exact cp_lt | exact cp_le | exact cp_gt | exact cp_ge | exact cp_eq | exact cp_ne | exact cp_eqs | exact cp_nes | exact cp_eqb | exact cp_in_tup | exact cp_notin_tup | exact cp_in_str | exact cp_notin_str)))) (fun hb => ?_) (fun _ => ?_)
  · rw [hD.head, hD.tail] at hb; simp at hb
  refine ex_for (n := ((n.length : Int) - ((t.length : Int) - hi) - 1 - lo).toNat) (item := fun i => .int (lo + i)) (fun i vs cs => vs = fr3 d t f lo hi n ∧ cs = cl0 z d ns L1 L2 L3 (some (.int lby)) (some (.bool tabs)) (some (.int w)) τ) ?_ ⟨rfl, rfl⟩ (fun i vs cs hil hJ => ?_) (fun vs cs hJ => ?_)
  · exact src_range2 (lo := (lo : Int)) (hi := (n.length : Int) - ((t.length : Int) - hi) - 1) (ev_builtin (by repeat first | exact List.Mem.head _ | apply List.Mem.tail) K.g_range rfl (by decide)) (el_cons (ev_local (by repeat first | exact GetAt.head | apply GetAt.tail)) (el_cons (ev_bin (ev_bin (ev_callB (ev_builtin (by repeat first | exact List.Mem.head _ | apply List.Mem.tail) K.g_len rfl (by decide)) (el_cons (ev_local (by repeat first | exact GetAt.head | apply GetAt.tail)) el_nil) (by first | exact bi_len_list (by first | assumption | lia | (simp; done) | (simp; lia)) | exact bi_len_str (by first | assumption | lia | (simp; done) | (simp; lia)) | exact bi_abs | exact bi_max | exact bi_min | exact bi_chr (by first | assumption | lia | (simp; done) | (simp; lia)) (by first | assumption | lia | (simp; done) | (simp; lia)) | exact bi_ord | exact bi_lstrip (by first | assumption | lia | (simp; done) | (simp; lia)) | exact bi_rstrip (by first | assumption | lia | (simp; done) | (simp; lia)) | exact bi_strip (by first | assumption | lia | (simp; done) | (simp; lia)) | exact bi_count | exact bi_expandtabs (by first | assumption | lia | (simp; done) | (simp; lia)) (by first | assumption | lia | (simp; done) | (simp; lia)) (by first | assumption | lia | (simp; done) | (simp; lia)) | exact bi_split (by first | assumption | lia | (simp; done) | (simp; lia)) | exact bi_sorted2)) (ev_local (by repeat first | exact GetAt.head | apply GetAt.tail)) (by first | exact op_add | exact op_sub | exact op_mod (by first | assumption | lia | (simp; done) | (simp; lia)) | exact op_div (by first | assumption | lia | (simp; done) | (simp; lia)) (PyProof.noPylong_small (by lia)) | exact op_mul (mul_okR (by lia)) | exact op_mul (mul_okL (by lia)) | exact op_adds (by first | assumption | lia | (simp; done) | (simp; lia)) | exact op_addl (by first | assumption | lia | (simp; done) | (simp; lia)) | exact op_muls (by first | assumption | lia | (simp; done) | (simp; lia)) (by first | assumption | lia | (simp; done) | (simp; lia)) | exact op_mull (by first | assumption | lia | (simp; done) | (simp; lia)) (by first | assumption | lia | (simp; done) | (simp; lia)) (by first | assumption | lia | (simp; done) | (simp; lia)))) ev_int (by first | exact op_add | exact op_sub | exact op_mod (by first | assumption | lia | (simp; done) | (simp; lia)) | exact op_div (by first | assumption | lia | (simp; done) | (simp; lia)) (PyProof.noPylong_small (by lia)) | exact op_mul (mul_okR (by lia)) | exact op_mul (mul_okL (by lia)) | exact op_adds (by first | assumption | lia | (simp; done) | (simp; lia)) | exact op_addl (by first | assumption | lia | (simp; done) | (simp; lia)) | exact op_muls (by first | assumption | lia | (simp; done) | (simp; lia)) (by first | assumption | lia | (simp; done) | (simp; lia)) | exact op_mull (by first | assumption | lia | (simp; done) | (simp; lia)) (by first | assumption | lia | (simp; done) | (simp; lia)) (by first | assumption | lia | (simp; done) | (simp; lia)))) el_nil)) (by lia)
  · obtain ⟨rfl, rfl⟩ := hJ
    have hs : (lo : Int) + i = ((lo + i : Nat) : Int) := by push_cast; rfl
    have hs1 : lo ≤ lo + i := Nat.le_add_right _ _
    have hs2 : lo + i + 1 < n.length - (t.length - hi) := by lia
    dsimp only
    rw [hs]
    have hm : ((n.length : Int) - ((t.length : Int) - hi)) = ((n.length - (t.length - hi) : Nat) : Int) := by lia
    have hrun := hD.run (lo + i) hs1 hs2
    generalize lo + i = s at *
    generalize n.length - (t.length - hi) = m at *
    have hml : m ≤ n.length := by lia
    have hd := hdL_len n s
    have hseg : ((n.take m).drop s).length ≤ n.length := by rw [List.length_drop, List.length_take]; lia
    have hll := lead_le ((n.take m).drop s)
    have hls := lstr_le ((n.take m).drop s)
    have sg : ∀ {j : Nat}, j < n.length → n[(j : Int).toNat]? = some (n.getD j 0) := fun {j} h => by simp [h]
    have csg : cut n (some (s : Int)) (some ((n.length : Int) - ((t.length : Int) - hi))) = (n.take m).drop s := by rw [hm, cut_mid _ (by lia) (by lia)]; rfl
    refine ⟨_, by (repeat first | exact SetAt.head | apply SetAt.tail), fun z2 => ?_⟩
    refine ex_assign (ev_last (ev_smeth PySem.F.slot_str_split PySem.F.type_str_split (ev_conv (ev_cut_str (ev_local (by repeat first | exact GetAt.head | apply GetAt.tail)) eo_none (eo_some (ev_local (by repeat first | exact GetAt.head | apply GetAt.tail))) (by lia)) (q := .str (n.take s)) (by rw [cut_take _ (by lia)]; rfl)) (el_cons (ev_str (l := [10]) rfl) el_nil) (by first | exact bi_len_list (by first | assumption | lia | (simp; done) | (simp; lia)) | exact bi_len_str (by first | assumption | lia | (simp; done) | (simp; lia)) | exact bi_abs | exact bi_max | exact bi_min | exact bi_chr (by first | assumption | lia | (simp; done) | (simp; lia)) (by first | assumption | lia | (simp; done) | (simp; lia)) | exact bi_ord | exact bi_lstrip (by first | assumption | lia | (simp; done) | (simp; lia)) | exact bi_rstrip (by first | assumption | lia | (simp; done) | (simp; lia)) | exact bi_strip (by first | assumption | lia | (simp; done) | (simp; lia)) | exact bi_count | exact bi_expandtabs (by first | assumption | lia | (simp; done) | (simp; lia)) (by first | assumption | lia | (simp; done) | (simp; lia)) (by first | assumption | lia | (simp; done) | (simp; lia)) | exact bi_split (by first | assumption | lia | (simp; done) | (simp; lia)) | exact bi_sorted2)) (ev_neg ev_int) (by simp; exact Nat.lt_of_le_of_lt (spl_length _) (by rw [List.length_take]; lia)) (last_split (by lia))) (by repeat first | exact SetAt.head | apply SetAt.tail) ?_
    refine ex_assign (ev_boolop (evb_and (ev_cmp (ev_sign (ev_local (by repeat first | exact GetAt.head | apply GetAt.tail)) (ev_local (by repeat first | exact GetAt.head | apply GetAt.tail)) (by lia) (by lia) (sg (by lia))) (ev_str (l := [32]) rfl) (by first | exact cp_lt | exact cp_le | exact cp_gt | exact cp_ge | exact cp_eq | exact cp_ne | exact cp_eqs | exact cp_nes | exact cp_eqb | exact cp_in_tup | exact cp_notin_tup | exact cp_in_str | exact cp_notin_str)) (fun hb => (evb_and (ev_cmp (ev_sign (ev_local (by repeat first | exact GetAt.head | apply GetAt.tail)) (ev_bin (ev_local (by repeat first | exact GetAt.head | apply GetAt.tail)) ev_int (by first | exact op_add | exact op_sub | exact op_mod (by first | assumption | lia | (simp; done) | (simp; lia)) | exact op_div (by first | assumption | lia | (simp; done) | (simp; lia)) (PyProof.noPylong_small (by lia)) | exact op_mul (mul_okR (by lia)) | exact op_mul (mul_okL (by lia)) | exact op_adds (by first | assumption | lia | (simp; done) | (simp; lia)) | exact op_addl (by first | assumption | lia | (simp; done) | (simp; lia)) | exact op_muls (by first | assumption | lia | (simp; done) | (simp; lia)) (by first | assumption | lia | (simp; done) | (simp; lia)) | exact op_mull (by first | assumption | lia | (simp; done) | (simp; lia)) (by first | assumption | lia | (simp; done) | (simp; lia)) (by first | assumption | lia | (simp; done) | (simp; lia)))) (by lia) (by lia) (show n[((s : Int) + 1).toNat]? = some (n.getD (s + 1) 0) by rw [show ((s : Int) + 1).toNat = s + 1 by lia]; exact sg (j := s + 1) (by lia))) (ev_str (l := [32, 9]) rfl) (by first | exact cp_lt | exact cp_le | exact cp_gt | exact cp_ge | exact cp_eq | exact cp_ne | exact cp_eqs | exact cp_nes | exact cp_eqb | exact cp_in_tup | exact cp_notin_tup | exact cp_in_str | exact cp_notin_str)) (fun hb => (evb_one (ev_boolop (evb_or (ev_cmp (ev_local (by repeat first | exact GetAt.head | apply GetAt.tail)) (ev_local (by repeat first | exact GetAt.head | apply GetAt.tail)) (by first | exact cp_lt | exact cp_le | exact cp_gt | exact cp_ge | exact cp_eq | exact cp_ne | exact cp_eqs | exact cp_nes | exact cp_eqb | exact cp_in_tup | exact cp_notin_tup | exact cp_in_str | exact cp_notin_str)) (fun hb => (evb_one (ev_cmp (ev_sign (ev_local (by repeat first | exact GetAt.head | apply GetAt.tail)) (ev_bin (ev_local (by repeat first | exact GetAt.head | apply GetAt.tail)) ev_int (by first | exact op_add | exact op_sub | exact op_mod (by first | assumption | lia | (simp; done) | (simp; lia)) | exact op_div (by first | assumption | lia | (simp; done) | (simp; lia)) (PyProof.noPylong_small (by lia)) | exact op_mul (mul_okR (by lia)) | exact op_mul (mul_okL (by lia)) | exact op_adds (by first | assumption | lia | (simp; done) | (simp; lia)) | exact op_addl (by first | assumption | lia | (simp; done) | (simp; lia)) | exact op_muls (by first | assumption | lia | (simp; done) | (simp; lia)) (by first | assumption | lia | (simp; done) | (simp; lia)) | exact op_mull (by first | assumption | lia | (simp; done) | (simp; lia)) (by first | assumption | lia | (simp; done) | (simp; lia)) (by first | assumption | lia | (simp; done) | (simp; lia)))) (by have := of_decide_eq_false hb; lia) (by lia) (show n[((s : Int) - 1).toNat]? = some (n.getD (s - 1) 0) by have := of_decide_eq_false hb; rw [show ((s : Int) - 1).toNat = s - 1 by lia]; exact sg (j := s - 1) (by lia))) (ev_str (l := [32, 9]) rfl) (by first | exact cp_lt | exact cp_le | exact cp_gt | exact cp_ge | exact cp_eq | exact cp_ne | exact cp_eqs | exact cp_nes | exact cp_eqb | exact cp_in_tup | exact cp_notin_tup | exact cp_in_str | exact cp_notin_str)))))))))))) (by repeat first | exact SetAt.head | apply SetAt.tail) ?_
    refine ex_assign (p := .int ((lead ((n.take m).drop s)).length : Nat)) (ev_conv (ev_bin (ev_callB (ev_builtin (by repeat first | exact List.Mem.head _ | apply List.Mem.tail) K.g_len rfl (by decide)) (el_cons (ev_conv (ev_cut_str (ev_local (by repeat first | exact GetAt.head | apply GetAt.tail)) (eo_some (ev_local (by repeat first | exact GetAt.head | apply GetAt.tail))) (eo_some (ev_bin (ev_callB (ev_builtin (by repeat first | exact List.Mem.head _ | apply List.Mem.tail) K.g_len rfl (by decide)) (el_cons (ev_local (by repeat first | exact GetAt.head | apply GetAt.tail)) el_nil) (by first | exact bi_len_list (by first | assumption | lia | (simp; done) | (simp; lia)) | exact bi_len_str (by first | assumption | lia | (simp; done) | (simp; lia)) | exact bi_abs | exact bi_max | exact bi_min | exact bi_chr (by first | assumption | lia | (simp; done) | (simp; lia)) (by first | assumption | lia | (simp; done) | (simp; lia)) | exact bi_ord | exact bi_lstrip (by first | assumption | lia | (simp; done) | (simp; lia)) | exact bi_rstrip (by first | assumption | lia | (simp; done) | (simp; lia)) | exact bi_strip (by first | assumption | lia | (simp; done) | (simp; lia)) | exact bi_count | exact bi_expandtabs (by first | assumption | lia | (simp; done) | (simp; lia)) (by first | assumption | lia | (simp; done) | (simp; lia)) (by first | assumption | lia | (simp; done) | (simp; lia)) | exact bi_split (by first | assumption | lia | (simp; done) | (simp; lia)) | exact bi_sorted2)) (ev_local (by repeat first | exact GetAt.head | apply GetAt.tail)) (by first | exact op_add | exact op_sub | exact op_mod (by first | assumption | lia | (simp; done) | (simp; lia)) | exact op_div (by first | assumption | lia | (simp; done) | (simp; lia)) (PyProof.noPylong_small (by lia)) | exact op_mul (mul_okR (by lia)) | exact op_mul (mul_okL (by lia)) | exact op_adds (by first | assumption | lia | (simp; done) | (simp; lia)) | exact op_addl (by first | assumption | lia | (simp; done) | (simp; lia)) | exact op_muls (by first | assumption | lia | (simp; done) | (simp; lia)) (by first | assumption | lia | (simp; done) | (simp; lia)) | exact op_mull (by first | assumption | lia | (simp; done) | (simp; lia)) (by first | assumption | lia | (simp; done) | (simp; lia)) (by first | assumption | lia | (simp; done) | (simp; lia))))) (by lia)) (by rw [csg])) el_nil) (by first | exact bi_len_list (by first | assumption | lia | (simp; done) | (simp; lia)) | exact bi_len_str (by first | assumption | lia | (simp; done) | (simp; lia)) | exact bi_abs | exact bi_max | exact bi_min | exact bi_chr (by first | assumption | lia | (simp; done) | (simp; lia)) (by first | assumption | lia | (simp; done) | (simp; lia)) | exact bi_ord | exact bi_lstrip (by first | assumption | lia | (simp; done) | (simp; lia)) | exact bi_rstrip (by first | assumption | lia | (simp; done) | (simp; lia)) | exact bi_strip (by first | assumption | lia | (simp; done) | (simp; lia)) | exact bi_count | exact bi_expandtabs (by first | assumption | lia | (simp; done) | (simp; lia)) (by first | assumption | lia | (simp; done) | (simp; lia)) (by first | assumption | lia | (simp; done) | (simp; lia)) | exact bi_split (by first | assumption | lia | (simp; done) | (simp; lia)) | exact bi_sorted2)) (ev_callB (ev_builtin (by repeat first | exact List.Mem.head _ | apply List.Mem.tail) K.g_len rfl (by decide)) (el_cons (ev_smeth PySem.F.slot_str_lstrip PySem.F.type_str_lstrip (ev_conv (ev_cut_str (ev_local (by repeat first | exact GetAt.head | apply GetAt.tail)) (eo_some (ev_local (by repeat first | exact GetAt.head | apply GetAt.tail))) (eo_some (ev_bin (ev_callB (ev_builtin (by repeat first | exact List.Mem.head _ | apply List.Mem.tail) K.g_len rfl (by decide)) (el_cons (ev_local (by repeat first | exact GetAt.head | apply GetAt.tail)) el_nil) (by first | exact bi_len_list (by first | assumption | lia | (simp; done) | (simp; lia)) | exact bi_len_str (by first | assumption | lia | (simp; done) | (simp; lia)) | exact bi_abs | exact bi_max | exact bi_min | exact bi_chr (by first | assumption | lia | (simp; done) | (simp; lia)) (by first | assumption | lia | (simp; done) | (simp; lia)) | exact bi_ord | exact bi_lstrip (by first | assumption | lia | (simp; done) | (simp; lia)) | exact bi_rstrip (by first | assumption | lia | (simp; done) | (simp; lia)) | exact bi_strip (by first | assumption | lia | (simp; done) | (simp; lia)) | exact bi_count | exact bi_expandtabs (by first | assumption | lia | (simp; done) | (simp; lia)) (by first | assumption | lia | (simp; done) | (simp; lia)) (by first | assumption | lia | (simp; done) | (simp; lia)) | exact bi_split (by first | assumption | lia | (simp; done) | (simp; lia)) | exact bi_sorted2)) (ev_local (by repeat first | exact GetAt.head | apply GetAt.tail)) (by first | exact op_add | exact op_sub | exact op_mod (by first | assumption | lia | (simp; done) | (simp; lia)) | exact op_div (by first | assumption | lia | (simp; done) | (simp; lia)) (PyProof.noPylong_small (by lia)) | exact op_mul (mul_okR (by lia)) | exact op_mul (mul_okL (by lia)) | exact op_adds (by first | assumption | lia | (simp; done) | (simp; lia)) | exact op_addl (by first | assumption | lia | (simp; done) | (simp; lia)) | exact op_muls (by first | assumption | lia | (simp; done) | (simp; lia)) (by first | assumption | lia | (simp; done) | (simp; lia)) | exact op_mull (by first | assumption | lia | (simp; done) | (simp; lia)) (by first | assumption | lia | (simp; done) | (simp; lia)) (by first | assumption | lia | (simp; done) | (simp; lia))))) (by lia)) (by rw [csg])) (el_cons (ev_str (l := [32, 9]) rfl) el_nil) (by first | exact bi_len_list (by first | assumption | lia | (simp; done) | (simp; lia)) | exact bi_len_str (by first | assumption | lia | (simp; done) | (simp; lia)) | exact bi_abs | exact bi_max | exact bi_min | exact bi_chr (by first | assumption | lia | (simp; done) | (simp; lia)) (by first | assumption | lia | (simp; done) | (simp; lia)) | exact bi_ord | exact bi_lstrip (by first | assumption | lia | (simp; done) | (simp; lia)) | exact bi_rstrip (by first | assumption | lia | (simp; done) | (simp; lia)) | exact bi_strip (by first | assumption | lia | (simp; done) | (simp; lia)) | exact bi_count | exact bi_expandtabs (by first | assumption | lia | (simp; done) | (simp; lia)) (by first | assumption | lia | (simp; done) | (simp; lia)) (by first | assumption | lia | (simp; done) | (simp; lia)) | exact bi_split (by first | assumption | lia | (simp; done) | (simp; lia)) | exact bi_sorted2)) el_nil) (by first | exact bi_len_list (by first | assumption | lia | (simp; done) | (simp; lia)) | exact bi_len_str (by first | assumption | lia | (simp; done) | (simp; lia)) | exact bi_abs | exact bi_max | exact bi_min | exact bi_chr (by first | assumption | lia | (simp; done) | (simp; lia)) (by first | assumption | lia | (simp; done) | (simp; lia)) | exact bi_ord | exact bi_lstrip (by first | assumption | lia | (simp; done) | (simp; lia)) | exact bi_rstrip (by first | assumption | lia | (simp; done) | (simp; lia)) | exact bi_strip (by first | assumption | lia | (simp; done) | (simp; lia)) | exact bi_count | exact bi_expandtabs (by first | assumption | lia | (simp; done) | (simp; lia)) (by first | assumption | lia | (simp; done) | (simp; lia)) (by first | assumption | lia | (simp; done) | (simp; lia)) | exact bi_split (by first | assumption | lia | (simp; done) | (simp; lia)) | exact bi_sorted2)) (by first | exact op_add | exact op_sub | exact op_mod (by first | assumption | lia | (simp; done) | (simp; lia)) | exact op_div (by first | assumption | lia | (simp; done) | (simp; lia)) (PyProof.noPylong_small (by lia)) | exact op_mul (mul_okR (by lia)) | exact op_mul (mul_okL (by lia)) | exact op_adds (by first | assumption | lia | (simp; done) | (simp; lia)) | exact op_addl (by first | assumption | lia | (simp; done) | (simp; lia)) | exact op_muls (by first | assumption | lia | (simp; done) | (simp; lia)) (by first | assumption | lia | (simp; done) | (simp; lia)) | exact op_mull (by first | assumption | lia | (simp; done) | (simp; lia)) (by first | assumption | lia | (simp; done) | (simp; lia)) (by first | assumption | lia | (simp; done) | (simp; lia)))) (by rw [lead_len])) (by repeat first | exact SetAt.head | apply SetAt.tail) ?_
    refine ex_if (et_conv (et_and (et_value (ev_local (by repeat first | exact GetAt.head | apply GetAt.tail))) (fun hb => (et_cmp (ev_bin (ev_call0 (ev_globalR (by repeat first | exact List.Mem.head _ | apply List.Mem.tail) K.g_law_column_of) K.d_law_column_of.isFn (el_cons (ev_local (by repeat first | exact GetAt.head | apply GetAt.tail)) (el_cons (ev_cell (by repeat first | exact List.Mem.head _ | apply List.Mem.tail) (by repeat first | exact List.Mem.head _ | apply List.Mem.tail)) el_nil)) (K.f_column_of (by lia) (by lia)) (by decide)) (ev_cell (by repeat first | exact List.Mem.head _ | apply List.Mem.tail) (by repeat first | exact List.Mem.head _ | apply List.Mem.tail)) (by first | exact op_add | exact op_sub | exact op_mod (by first | assumption | lia | (simp; done) | (simp; lia)) | exact op_div (by first | assumption | lia | (simp; done) | (simp; lia)) (PyProof.noPylong_small (by lia)) | exact op_mul (mul_okR (by lia)) | exact op_mul (mul_okL (by lia)) | exact op_adds (by first | assumption | lia | (simp; done) | (simp; lia)) | exact op_addl (by first | assumption | lia | (simp; done) | (simp; lia)) | exact op_muls (by first | assumption | lia | (simp; done) | (simp; lia)) (by first | assumption | lia | (simp; done) | (simp; lia)) | exact op_mull (by first | assumption | lia | (simp; done) | (simp; lia)) (by first | assumption | lia | (simp; done) | (simp; lia)) (by first | assumption | lia | (simp; done) | (simp; lia)))) (ev_bin (ev_call0 (ev_globalR (by repeat first | exact List.Mem.head _ | apply List.Mem.tail) K.g_law_column_of) K.d_law_column_of.isFn (el_cons (ev_bin (ev_local (by repeat first | exact GetAt.head | apply GetAt.tail)) (ev_conv (ev_cut_str (ev_local (by repeat first | exact GetAt.head | apply GetAt.tail)) (eo_some (ev_local (by repeat first | exact GetAt.head | apply GetAt.tail))) (eo_some (ev_bin (ev_local (by repeat first | exact GetAt.head | apply GetAt.tail)) (ev_local (by repeat first | exact GetAt.head | apply GetAt.tail)) (by first | exact op_add | exact op_sub | exact op_mod (by first | assumption | lia | (simp; done) | (simp; lia)) | exact op_div (by first | assumption | lia | (simp; done) | (simp; lia)) (PyProof.noPylong_small (by lia)) | exact op_mul (mul_okR (by lia)) | exact op_mul (mul_okL (by lia)) | exact op_adds (by first | assumption | lia | (simp; done) | (simp; lia)) | exact op_addl (by first | assumption | lia | (simp; done) | (simp; lia)) | exact op_muls (by first | assumption | lia | (simp; done) | (simp; lia)) (by first | assumption | lia | (simp; done) | (simp; lia)) | exact op_mull (by first | assumption | lia | (simp; done) | (simp; lia)) (by first | assumption | lia | (simp; done) | (simp; lia)) (by first | assumption | lia | (simp; done) | (simp; lia))))) (by lia)) (q := .str (lead ((n.take m).drop s))) (by rw [cut_mid _ (by lia) (by lia)]; exact congrArg PV.str (run_cut (s := s) hml))) (by first | exact op_add | exact op_sub | exact op_mod (by first | assumption | lia | (simp; done) | (simp; lia)) | exact op_div (by first | assumption | lia | (simp; done) | (simp; lia)) (PyProof.noPylong_small (by lia)) | exact op_mul (mul_okR (by lia)) | exact op_mul (mul_okL (by lia)) | exact op_adds (by first | assumption | lia | (simp; done) | (simp; lia)) | exact op_addl (by first | assumption | lia | (simp; done) | (simp; lia)) | exact op_muls (by first | assumption | lia | (simp; done) | (simp; lia)) (by first | assumption | lia | (simp; done) | (simp; lia)) | exact op_mull (by first | assumption | lia | (simp; done) | (simp; lia)) (by first | assumption | lia | (simp; done) | (simp; lia)) (by first | assumption | lia | (simp; done) | (simp; lia)))) (el_cons (ev_cell (by repeat first | exact List.Mem.head _ | apply List.Mem.tail) (by repeat first | exact List.Mem.head _ | apply List.Mem.tail)) el_nil)) (K.f_column_of (by lia) (by rw [List.length_append]; lia)) (by decide)) (ev_cell (by repeat first | exact List.Mem.head _ | apply List.Mem.tail) (by repeat first | exact List.Mem.head _ | apply List.Mem.tail)) (by first | exact op_add | exact op_sub | exact op_mod (by first | assumption | lia | (simp; done) | (simp; lia)) | exact op_div (by first | assumption | lia | (simp; done) | (simp; lia)) (PyProof.noPylong_small (by lia)) | exact op_mul (mul_okR (by lia)) | exact op_mul (mul_okL (by lia)) | exact op_adds (by first | assumption | lia | (simp; done) | (simp; lia)) | exact op_addl (by first | assumption | lia | (simp; done) | (simp; lia)) | exact op_muls (by first | assumption | lia | (simp; done) | (simp; lia)) (by first | assumption | lia | (simp; done) | (simp; lia)) | exact op_mull (by first | assumption | lia | (simp; done) | (simp; lia)) (by first | assumption | lia | (simp; done) | (simp; lia)) (by first | assumption | lia | (simp; done) | (simp; lia)))) (by first | exact cp_lt | exact cp_le | exact cp_gt | exact cp_ge | exact cp_eq | exact cp_ne | exact cp_eqs | exact cp_nes | exact cp_eqb | exact cp_in_tup | exact cp_notin_tup | exact cp_in_str | exact cp_notin_str)))) (q := false) ?_) (fun hb => Bool.noConfusion hb) (fun _ => ex_nil ⟨_, _, rfl, ?_, rfl, rfl⟩)
    · apply Bool.eq_false_iff.mpr
      intro hq
      simp only [Bool.and_eq_true, decide_eq_true_eq, Bool.or_eq_true, Bool.not_eq_true', decide_eq_false_iff_not, bl_in] at hq
      obtain ⟨⟨h1, h2, h3⟩, h4⟩ := hq
      exact h4 (hrun (by simpa using h1) h2 (h3.imp (fun e => by lia) id))
    · exact .keep (.keep (.keep (.keep (.keep (.keep (.keep (.keep (.keep (.keep (.drop (.drop (.keep (.keep (.keep (.drop (.drop (Fsub.refl _)))))))))))))))))
  · obtain ⟨rfl, rfl⟩ := hJ
    exact ex_fsub (.keep (.keep (.keep (.keep (.keep (.keep (.keep (.keep (.keep (.keep (.keep (.keep (.keep (.drop (.drop (Fsub.refl _)))))))))))))))) hr
end Mine

end
section
open PySem PySem.W PyProof.Rows
namespace Mine
open PySem PySem.Calls PySem.W PyProof.Rows PySem.Builtin.Str
variable {c : Cx}
set_option maxRecDepth 100000
set_option maxHeartbeats 1200000
structure PlainE (t : List Nat) (w : Nat) (tabs : Bool) : Prop where
  ab : AB t
  rel : ∀ i, i ≤ t.length → relV w t i = lrel (spl t) ((t.take i).filter (· == 10)).length (colOf w (hdL t i)) w
  stE : ∀ i, i ≤ t.length → EdOk (stopE w tabs t i)
  spE : ∀ i, i ≤ t.length → EdOk (splitE w tabs t i)
  btB : ∀ c, 0 ≤ c → c ≤ 304000 → (bt 0 c w tabs).length ≤ 400000
theorem drop_app {a b : List Nat} {n : Nat} (h : a.length = n) : (a ++ b).drop n = b := by subst h; exact List.drop_left
theorem take_app {a b : List Nat} {n : Nat} (h : a.length = n) : (a ++ b).take n = a := by subst h; exact List.take_left
theorem AB.low {l : List Nat} (h : AB l) : Low l := fun n hn => by have := h n hn; lia
theorem spl_bd {t x : List Nat} (h : x ∈ spl t) : x.length ≤ t.length := by
  have h1 : x.length + 1 ≤ ((spl t).map fun x => x.length + 1).sum := le_sum_mem _ (List.mem_map.mpr ⟨x, h, rfl⟩)
  have := spl_sum t; lia
theorem one_ok {e : Edit} (h : EdOk e) : ∀ e' ∈ [e], e'.1 ≤ e'.2.1 ∧ e'.2.1 ≤ 100000 ∧ e'.2.2.length ≤ 1000 ∧ ∀ n ∈ e'.2.2, n < 1000 := fun e' he => by rw [List.mem_singleton.mp he]; exact h
theorem chunkE (K : KOk c) {L1 L2 L3 : Addr} (X : LX c L1 L2 L3) (hX : LawX X) {z : Addr × CV} {d : Addr} {ns : List Int} {τ : Cells} {t : List Nat} {f : Int} {w : Nat} {tabs : Bool} {lby : Int} {lo hi : Nat} (hns : DeckOk ns) (hln : t.length ≤ 17) (hf : 1 ≤ f ∧ f ≤ 3) (hw : 0 < w ∧ w ≤ 8)
    (hE : PlainE t w tabs) {N : List (Option PV) → Cells → Prop} {R : PV → Cells → Prop}
    (hr : ∀ ns', DeckOk ns' → Ex X (fr0 d) (cl0 z d ns' L1 L2 L3 (some (.int lby)) (some (.bool tabs)) (some (.int w)) τ) [] N R) :
    Ex X (fr1 d t f lo hi) (cl0 z d ns L1 L2 L3 (some (.int lby)) (some (.bool tabs)) (some (.int w)) τ) (lbody.drop 17) N R := by
  have r1 := draw_ok hns (m := (t.length : Int) + 1) (by lia)
  refine ex_assign (ev_callC (ev_globalR (by repeat first | exact List.Mem.head _ | apply List.Mem.tail) K.g_law_draw) K.d_law_draw.isFn (el_cons (ev_local (by repeat first | exact GetAt.head | apply GetAt.tail)) (el_cons (ev_bin (ev_callB (ev_builtin (by repeat first | exact List.Mem.head _ | apply List.Mem.tail) K.g_len rfl (by decide)) (el_cons (ev_local (by repeat first | exact GetAt.head | apply GetAt.tail)) el_nil) (by first | exact bi_len_list (by first | assumption | lia | (simp; done) | (simp; lia)) | exact bi_len_str (by first | assumption | lia | (simp; done) | (simp; lia)) | exact bi_abs | exact bi_max | exact bi_min | exact bi_chr (by first | assumption | lia | (simp; done) | (simp; lia)) (by first | assumption | lia | (simp; done) | (simp; lia)) | exact bi_ord | exact bi_lstrip (by first | assumption | lia | (simp; done) | (simp; lia)) | exact bi_rstrip (by first | assumption | lia | (simp; done) | (simp; lia)) | exact bi_strip (by first | assumption | lia | (simp; done) | (simp; lia)) | exact bi_count | exact bi_expandtabs (by first | assumption | lia | (simp; done) | (simp; lia)) (by first | assumption | lia | (simp; done) | (simp; lia)) (by first | assumption | lia | (simp; done) | (simp; lia)) | exact bi_split (by first | assumption | lia | (simp; done) | (simp; lia)) | exact bi_sorted2)) ev_int (by first | exact op_add | exact op_sub | exact op_mod (by first | assumption | lia | (simp; done) | (simp; lia)) | exact op_div (by first | assumption | lia | (simp; done) | (simp; lia)) (PyProof.noPylong_small (by lia)) | exact op_mul (mul_okR (by lia)) | exact op_mul (mul_okL (by lia)) | exact op_adds (by first | assumption | lia | (simp; done) | (simp; lia)) | exact op_addl (by first | assumption | lia | (simp; done) | (simp; lia)) | exact op_muls (by first | assumption | lia | (simp; done) | (simp; lia)) (by first | assumption | lia | (simp; done) | (simp; lia)) | exact op_mull (by first | assumption | lia | (simp; done) | (simp; lia)) (by first | assumption | lia | (simp; done) | (simp; lia)) (by first | assumption | lia | (simp; done) | (simp; lia)))) el_nil)) (K.f_draw d ns hns (by lia)) (by decide) (by repeat first | exact CsSet.head | apply CsSet.tail)) (by repeat first | exact SetAt.head | apply SetAt.tail) ?_
  obtain ⟨i, hi'⟩ : ∃ i : Nat, (draw ns ((t.length : Int) + 1)).1 = i := ⟨(draw ns ((t.length : Int) + 1)).1.toNat, by lia⟩
  rw [hi']
  have hil : i ≤ t.length := by lia
  have hns1 := r1.2.2
  generalize (draw ns ((t.length : Int) + 1)).2 = ns1 at *
  clear r1 hi'
  have hct : ∀ l : List Nat, cut l none (some (i : Int)) = l.take i := fun l => by rw [cut_take _ (by lia)]; rfl
  have hcd : cut t (some (i : Int)) none = t.drop i := by rw [cut_drop _ (by lia)]; rfl
  have hti : (t.take i).length ≤ 17 := by rw [List.length_take]; lia
  have hhd := hdL_len t i
  have hfl : ((t.take i).filter (· == 10)).length ≤ 17 := Nat.le_trans (List.length_filter_le _ _) hti
  have hspl := spl_length t
  refine ex_unpack2 (p := .list ((spl t).map PV.str)) (q := .int ((((t.take i).filter (· == 10)).length : Nat) : Int)) (ev_tuple (el_cons (ev_smeth PySem.F.slot_str_split PySem.F.type_str_split (ev_local (by repeat first | exact GetAt.head | apply GetAt.tail)) (el_cons (ev_str (l := [10]) rfl) el_nil) (by first | exact bi_len_list (by first | assumption | lia | (simp; done) | (simp; lia)) | exact bi_len_str (by first | assumption | lia | (simp; done) | (simp; lia)) | exact bi_abs | exact bi_max | exact bi_min | exact bi_chr (by first | assumption | lia | (simp; done) | (simp; lia)) (by first | assumption | lia | (simp; done) | (simp; lia)) | exact bi_ord | exact bi_lstrip (by first | assumption | lia | (simp; done) | (simp; lia)) | exact bi_rstrip (by first | assumption | lia | (simp; done) | (simp; lia)) | exact bi_strip (by first | assumption | lia | (simp; done) | (simp; lia)) | exact bi_count | exact bi_expandtabs (by first | assumption | lia | (simp; done) | (simp; lia)) (by first | assumption | lia | (simp; done) | (simp; lia)) (by first | assumption | lia | (simp; done) | (simp; lia)) | exact bi_split (by first | assumption | lia | (simp; done) | (simp; lia)) | exact bi_sorted2)) (el_cons (ev_smeth PySem.F.slot_str_count PySem.F.type_str_count (ev_conv (ev_cut_str (ev_local (by repeat first | exact GetAt.head | apply GetAt.tail)) eo_none (eo_some (ev_local (by repeat first | exact GetAt.head | apply GetAt.tail))) (by lia)) (by rw [hct])) (el_cons (ev_str (l := [10]) rfl) el_nil) (by first | exact bi_len_list (by first | assumption | lia | (simp; done) | (simp; lia)) | exact bi_len_str (by first | assumption | lia | (simp; done) | (simp; lia)) | exact bi_abs | exact bi_max | exact bi_min | exact bi_chr (by first | assumption | lia | (simp; done) | (simp; lia)) (by first | assumption | lia | (simp; done) | (simp; lia)) | exact bi_ord | exact bi_lstrip (by first | assumption | lia | (simp; done) | (simp; lia)) | exact bi_rstrip (by first | assumption | lia | (simp; done) | (simp; lia)) | exact bi_strip (by first | assumption | lia | (simp; done) | (simp; lia)) | exact bi_count | exact bi_expandtabs (by first | assumption | lia | (simp; done) | (simp; lia)) (by first | assumption | lia | (simp; done) | (simp; lia)) (by first | assumption | lia | (simp; done) | (simp; lia)) | exact bi_split (by first | assumption | lia | (simp; done) | (simp; lia)) | exact bi_sorted2)) el_nil)) (by simp)) (by repeat first | exact SetAt.head | apply SetAt.tail) (by repeat first | exact SetAt.head | apply SetAt.tail) ?_ rfl (swap2 X (by simp) (by simp) (by decide) rfl rfl rfl rfl)
  refine ex_assign (ev_last (ev_smeth PySem.F.slot_str_split PySem.F.type_str_split (ev_conv (ev_cut_str (ev_local (by repeat first | exact GetAt.head | apply GetAt.tail)) eo_none (eo_some (ev_local (by repeat first | exact GetAt.head | apply GetAt.tail))) (by lia)) (by rw [hct])) (el_cons (ev_str (l := [10]) rfl) el_nil) (by first | exact bi_len_list (by first | assumption | lia | (simp; done) | (simp; lia)) | exact bi_len_str (by first | assumption | lia | (simp; done) | (simp; lia)) | exact bi_abs | exact bi_max | exact bi_min | exact bi_chr (by first | assumption | lia | (simp; done) | (simp; lia)) (by first | assumption | lia | (simp; done) | (simp; lia)) | exact bi_ord | exact bi_lstrip (by first | assumption | lia | (simp; done) | (simp; lia)) | exact bi_rstrip (by first | assumption | lia | (simp; done) | (simp; lia)) | exact bi_strip (by first | assumption | lia | (simp; done) | (simp; lia)) | exact bi_count | exact bi_expandtabs (by first | assumption | lia | (simp; done) | (simp; lia)) (by first | assumption | lia | (simp; done) | (simp; lia)) (by first | assumption | lia | (simp; done) | (simp; lia)) | exact bi_split (by first | assumption | lia | (simp; done) | (simp; lia)) | exact bi_sorted2)) (ev_neg ev_int) (by simp; exact Nat.lt_of_le_of_lt (spl_length _) (by lia)) (last_split hil)) (by repeat first | exact SetAt.head | apply SetAt.tail) ?_
  refine ex_if (et_cmp (ev_call0 (ev_globalR (by repeat first | exact List.Mem.head _ | apply List.Mem.tail) K.g_relative_column) K.d_relative_column.isFn (el_cons (ev_local (by repeat first | exact GetAt.head | apply GetAt.tail)) (el_cons (ev_bin (ev_local (by repeat first | exact GetAt.head | apply GetAt.tail)) (ev_local (by repeat first | exact GetAt.head | apply GetAt.tail)) (by first | exact op_add | exact op_sub | exact op_mod (by first | assumption | lia | (simp; done) | (simp; lia)) | exact op_div (by first | assumption | lia | (simp; done) | (simp; lia)) (PyProof.noPylong_small (by lia)) | exact op_mul (mul_okR (by lia)) | exact op_mul (mul_okL (by lia)) | exact op_adds (by first | assumption | lia | (simp; done) | (simp; lia)) | exact op_addl (by first | assumption | lia | (simp; done) | (simp; lia)) | exact op_muls (by first | assumption | lia | (simp; done) | (simp; lia)) (by first | assumption | lia | (simp; done) | (simp; lia)) | exact op_mull (by first | assumption | lia | (simp; done) | (simp; lia)) (by first | assumption | lia | (simp; done) | (simp; lia)) (by first | assumption | lia | (simp; done) | (simp; lia)))) (el_cons (ev_cell (by repeat first | exact List.Mem.head _ | apply List.Mem.tail) (by repeat first | exact List.Mem.head _ | apply List.Mem.tail)) (el_cons ev_bool el_nil)))) (K.f_relative_column t f i (by lia) (by lia) (by lia) hil rfl) (by decide)) (ev_call0 (ev_globalR (by repeat first | exact List.Mem.head _ | apply List.Mem.tail) K.g_law_relative) K.d_law_relative.isFn (el_cons (ev_local (by repeat first | exact GetAt.head | apply GetAt.tail)) (el_cons (ev_local (by repeat first | exact GetAt.head | apply GetAt.tail)) (el_cons (ev_call0 (ev_globalR (by repeat first | exact List.Mem.head _ | apply List.Mem.tail) K.g_law_column_of) K.d_law_column_of.isFn (el_cons (ev_local (by repeat first | exact GetAt.head | apply GetAt.tail)) (el_cons (ev_cell (by repeat first | exact List.Mem.head _ | apply List.Mem.tail) (by repeat first | exact List.Mem.head _ | apply List.Mem.tail)) el_nil)) (K.f_column_of (by lia) (by lia)) (by decide)) (el_cons (ev_cell (by repeat first | exact List.Mem.head _ | apply List.Mem.tail) (by repeat first | exact List.Mem.head _ | apply List.Mem.tail)) el_nil)))) (K.f_relative (by lia) (by lia) (by lia) (fun x hx => ⟨by have := spl_bd hx; lia, fun m hm => hE.ab.low m (mem_of_spl hx hm)⟩) (by unfold colOf; lia)) (by decide)) (by first | exact cp_lt | exact cp_le | exact cp_gt | exact cp_ge | exact cp_eq | exact cp_ne | exact cp_eqs | exact cp_nes | exact cp_eqb | exact cp_in_tup | exact cp_notin_tup | exact cp_in_str | exact cp_notin_str)) (fun hb => ?_) (fun _ => ?_)
  · rw [hE.rel i hil] at hb; simp at hb
  have hse := hE.stE i hil
  obtain ⟨s, B, hs, hmade, hlM, hBl, hlast, hcol, hrs, htab⟩ := stop_ok hE.ab hw.1 hil tabs
  refine ex_assign (p := .str ((t.take s ++ B) ++ t.drop i)) (ev_conv (ev_call0 (ev_globalR (by repeat first | exact List.Mem.head _ | apply List.Mem.tail) K.g_law_done) K.d_law_done.isFn (el_cons (ev_local (by repeat first | exact GetAt.head | apply GetAt.tail)) (el_cons (ev_list (el_cons (ev_call0 (ev_globalR (by repeat first | exact List.Mem.head _ | apply List.Mem.tail) K.g_stop_edit) K.d_stop_edit.isFn (el_cons (ev_local (by repeat first | exact GetAt.head | apply GetAt.tail)) (el_cons (ev_bin (ev_local (by repeat first | exact GetAt.head | apply GetAt.tail)) (ev_local (by repeat first | exact GetAt.head | apply GetAt.tail)) (by first | exact op_add | exact op_sub | exact op_mod (by first | assumption | lia | (simp; done) | (simp; lia)) | exact op_div (by first | assumption | lia | (simp; done) | (simp; lia)) (PyProof.noPylong_small (by lia)) | exact op_mul (mul_okR (by lia)) | exact op_mul (mul_okL (by lia)) | exact op_adds (by first | assumption | lia | (simp; done) | (simp; lia)) | exact op_addl (by first | assumption | lia | (simp; done) | (simp; lia)) | exact op_muls (by first | assumption | lia | (simp; done) | (simp; lia)) (by first | assumption | lia | (simp; done) | (simp; lia)) | exact op_mull (by first | assumption | lia | (simp; done) | (simp; lia)) (by first | assumption | lia | (simp; done) | (simp; lia)) (by first | assumption | lia | (simp; done) | (simp; lia)))) (el_cons (ev_cell (by repeat first | exact List.Mem.head _ | apply List.Mem.tail) (by repeat first | exact List.Mem.head _ | apply List.Mem.tail)) (el_cons (ev_cell (by repeat first | exact List.Mem.head _ | apply List.Mem.tail) (by repeat first | exact List.Mem.head _ | apply List.Mem.tail)) el_nil)))) (K.f_stop_edit t f i tabs (by lia) (by lia) (by lia) hil rfl) (by decide)) el_nil) (by simp)) (el_cons (ev_local (by repeat first | exact GetAt.head | apply GetAt.tail)) el_nil))) (K.f_done (es := [stopE w tabs t i]) (by lia) (by simp) (by lia) (one_ok hse)) (by decide)) (by rw [← hmade]; rfl)) (by repeat first | exact SetAt.head | apply SetAt.tail) ?_
  have hMl : (t.take s ++ B).length ≤ 2000 := by
    have hB2 := hse.2.2.1
    have hl2 := appE_length t (stopE w tabs t i) hse.1
    rw [hmade, List.length_append, List.length_drop] at hl2
    lia
  generalize hM : t.take s ++ B = M at *
  generalize hA : hdL t s ++ B = A at *
  have hAl : A.length ≤ 3000 := by
    have := congrArg List.length hA
    rw [List.length_append] at this
    have h2 := hdL_len t s
    have h3 := congrArg List.length hM
    rw [List.length_append, take_len (by lia)] at h3
    lia
  have hmdl : (M ++ t.drop i).length = M.length + (t.length - i) := by rw [List.length_append, List.length_drop]
  have e1 : (((M ++ t.drop i).length : Nat) : Int) - ((t.length : Int) - i) = (M.length : Nat) := by rw [hmdl]; lia
  have c1 : cut (M ++ t.drop i) none (some ((((M ++ t.drop i).length : Nat) : Int) - ((t.length : Int) - i))) = M := by rw [e1, cut_take _ (by lia)]; exact take_app rfl
  have c2 : cut (M ++ t.drop i) (some ((((M ++ t.drop i).length : Nat) : Int) - ((t.length : Int) - i))) none = t.drop i := by rw [e1, cut_drop _ (by lia)]; exact drop_app rfl
  have hrl : ∀ l : List Nat, (rstr l).length ≤ l.length := fun l => by
    unfold rstr; rw [List.length_reverse]; exact Nat.le_trans (List.dropWhile_sublist _).length_le (by rw [List.length_reverse]; exact Nat.le_refl _)
  have hra := hrl A
  have c3 : cut A (some (((rstr A).length : Nat) : Int)) none = A.drop (rstr A).length := by rw [cut_drop _ (by lia)]; rfl
  refine ex_assign (ev_last (ev_smeth PySem.F.slot_str_split PySem.F.type_str_split (ev_conv (ev_cut_str (ev_local (by repeat first | exact GetAt.head | apply GetAt.tail)) eo_none (eo_some (ev_bin (ev_callB (ev_builtin (by repeat first | exact List.Mem.head _ | apply List.Mem.tail) K.g_len rfl (by decide)) (el_cons (ev_local (by repeat first | exact GetAt.head | apply GetAt.tail)) el_nil) (by first | exact bi_len_list (by first | assumption | lia | (simp; done) | (simp; lia)) | exact bi_len_str (by first | assumption | lia | (simp; done) | (simp; lia)) | exact bi_abs | exact bi_max | exact bi_min | exact bi_chr (by first | assumption | lia | (simp; done) | (simp; lia)) (by first | assumption | lia | (simp; done) | (simp; lia)) | exact bi_ord | exact bi_lstrip (by first | assumption | lia | (simp; done) | (simp; lia)) | exact bi_rstrip (by first | assumption | lia | (simp; done) | (simp; lia)) | exact bi_strip (by first | assumption | lia | (simp; done) | (simp; lia)) | exact bi_count | exact bi_expandtabs (by first | assumption | lia | (simp; done) | (simp; lia)) (by first | assumption | lia | (simp; done) | (simp; lia)) (by first | assumption | lia | (simp; done) | (simp; lia)) | exact bi_split (by first | assumption | lia | (simp; done) | (simp; lia)) | exact bi_sorted2)) (ev_bin (ev_callB (ev_builtin (by repeat first | exact List.Mem.head _ | apply List.Mem.tail) K.g_len rfl (by decide)) (el_cons (ev_local (by repeat first | exact GetAt.head | apply GetAt.tail)) el_nil) (by first | exact bi_len_list (by first | assumption | lia | (simp; done) | (simp; lia)) | exact bi_len_str (by first | assumption | lia | (simp; done) | (simp; lia)) | exact bi_abs | exact bi_max | exact bi_min | exact bi_chr (by first | assumption | lia | (simp; done) | (simp; lia)) (by first | assumption | lia | (simp; done) | (simp; lia)) | exact bi_ord | exact bi_lstrip (by first | assumption | lia | (simp; done) | (simp; lia)) | exact bi_rstrip (by first | assumption | lia | (simp; done) | (simp; lia)) | exact bi_strip (by first | assumption | lia | (simp; done) | (simp; lia)) | exact bi_count | exact bi_expandtabs (by first | assumption | lia | (simp; done) | (simp; lia)) (by first | assumption | lia | (simp; done) | (simp; lia)) (by first | assumption | lia | (simp; done) | (simp; lia)) | exact bi_split (by first | assumption | lia | (simp; done) | (simp; lia)) | exact bi_sorted2)) (ev_local (by repeat first | exact GetAt.head | apply GetAt.tail)) (by first | exact op_add | exact op_sub | exact op_mod (by first | assumption | lia | (simp; done) | (simp; lia)) | exact op_div (by first | assumption | lia | (simp; done) | (simp; lia)) (PyProof.noPylong_small (by lia)) | exact op_mul (mul_okR (by lia)) | exact op_mul (mul_okL (by lia)) | exact op_adds (by first | assumption | lia | (simp; done) | (simp; lia)) | exact op_addl (by first | assumption | lia | (simp; done) | (simp; lia)) | exact op_muls (by first | assumption | lia | (simp; done) | (simp; lia)) (by first | assumption | lia | (simp; done) | (simp; lia)) | exact op_mull (by first | assumption | lia | (simp; done) | (simp; lia)) (by first | assumption | lia | (simp; done) | (simp; lia)) (by first | assumption | lia | (simp; done) | (simp; lia)))) (by first | exact op_add | exact op_sub | exact op_mod (by first | assumption | lia | (simp; done) | (simp; lia)) | exact op_div (by first | assumption | lia | (simp; done) | (simp; lia)) (PyProof.noPylong_small (by lia)) | exact op_mul (mul_okR (by lia)) | exact op_mul (mul_okL (by lia)) | exact op_adds (by first | assumption | lia | (simp; done) | (simp; lia)) | exact op_addl (by first | assumption | lia | (simp; done) | (simp; lia)) | exact op_muls (by first | assumption | lia | (simp; done) | (simp; lia)) (by first | assumption | lia | (simp; done) | (simp; lia)) | exact op_mull (by first | assumption | lia | (simp; done) | (simp; lia)) (by first | assumption | lia | (simp; done) | (simp; lia)) (by first | assumption | lia | (simp; done) | (simp; lia))))) (by lia)) (by rw [c1])) (el_cons (ev_str (l := [10]) rfl) el_nil) (by first | exact bi_len_list (by first | assumption | lia | (simp; done) | (simp; lia)) | exact bi_len_str (by first | assumption | lia | (simp; done) | (simp; lia)) | exact bi_abs | exact bi_max | exact bi_min | exact bi_chr (by first | assumption | lia | (simp; done) | (simp; lia)) (by first | assumption | lia | (simp; done) | (simp; lia)) | exact bi_ord | exact bi_lstrip (by first | assumption | lia | (simp; done) | (simp; lia)) | exact bi_rstrip (by first | assumption | lia | (simp; done) | (simp; lia)) | exact bi_strip (by first | assumption | lia | (simp; done) | (simp; lia)) | exact bi_count | exact bi_expandtabs (by first | assumption | lia | (simp; done) | (simp; lia)) (by first | assumption | lia | (simp; done) | (simp; lia)) (by first | assumption | lia | (simp; done) | (simp; lia)) | exact bi_split (by first | assumption | lia | (simp; done) | (simp; lia)) | exact bi_sorted2)) (ev_neg ev_int) (by simp; exact Nat.lt_of_le_of_lt (spl_length _) (by lia)) (by rw [List.getLast?_map, hlast]; rfl)) (by repeat first | exact SetAt.head | apply SetAt.tail) ?_
  have hmw := mod_bd (a := colOf w (hdL t i)) (w := (w : Int)) (by lia)
  have hcol2 : 0 ≤ colOf w (hdL t i) ∧ colOf w (hdL t i) ≤ 15000000 := by
    have := expt_len w (hdL t i) (by lia) (by lia)
    unfold colOf; lia
  have hdv := div_bd (a := colOf w (hdL t i)) (w := (w : Int)) (M := 15000000) (by lia) (by lia) (by lia)
  refine ex_if (et_or (et_cmp (ev_conv (ev_cut_str (ev_local (by repeat first | exact GetAt.head | apply GetAt.tail)) (eo_some (ev_bin (ev_callB (ev_builtin (by repeat first | exact List.Mem.head _ | apply List.Mem.tail) K.g_len rfl (by decide)) (el_cons (ev_local (by repeat first | exact GetAt.head | apply GetAt.tail)) el_nil) (by first | exact bi_len_list (by first | assumption | lia | (simp; done) | (simp; lia)) | exact bi_len_str (by first | assumption | lia | (simp; done) | (simp; lia)) | exact bi_abs | exact bi_max | exact bi_min | exact bi_chr (by first | assumption | lia | (simp; done) | (simp; lia)) (by first | assumption | lia | (simp; done) | (simp; lia)) | exact bi_ord | exact bi_lstrip (by first | assumption | lia | (simp; done) | (simp; lia)) | exact bi_rstrip (by first | assumption | lia | (simp; done) | (simp; lia)) | exact bi_strip (by first | assumption | lia | (simp; done) | (simp; lia)) | exact bi_count | exact bi_expandtabs (by first | assumption | lia | (simp; done) | (simp; lia)) (by first | assumption | lia | (simp; done) | (simp; lia)) (by first | assumption | lia | (simp; done) | (simp; lia)) | exact bi_split (by first | assumption | lia | (simp; done) | (simp; lia)) | exact bi_sorted2)) (ev_bin (ev_callB (ev_builtin (by repeat first | exact List.Mem.head _ | apply List.Mem.tail) K.g_len rfl (by decide)) (el_cons (ev_local (by repeat first | exact GetAt.head | apply GetAt.tail)) el_nil) (by first | exact bi_len_list (by first | assumption | lia | (simp; done) | (simp; lia)) | exact bi_len_str (by first | assumption | lia | (simp; done) | (simp; lia)) | exact bi_abs | exact bi_max | exact bi_min | exact bi_chr (by first | assumption | lia | (simp; done) | (simp; lia)) (by first | assumption | lia | (simp; done) | (simp; lia)) | exact bi_ord | exact bi_lstrip (by first | assumption | lia | (simp; done) | (simp; lia)) | exact bi_rstrip (by first | assumption | lia | (simp; done) | (simp; lia)) | exact bi_strip (by first | assumption | lia | (simp; done) | (simp; lia)) | exact bi_count | exact bi_expandtabs (by first | assumption | lia | (simp; done) | (simp; lia)) (by first | assumption | lia | (simp; done) | (simp; lia)) (by first | assumption | lia | (simp; done) | (simp; lia)) | exact bi_split (by first | assumption | lia | (simp; done) | (simp; lia)) | exact bi_sorted2)) (ev_local (by repeat first | exact GetAt.head | apply GetAt.tail)) (by first | exact op_add | exact op_sub | exact op_mod (by first | assumption | lia | (simp; done) | (simp; lia)) | exact op_div (by first | assumption | lia | (simp; done) | (simp; lia)) (PyProof.noPylong_small (by lia)) | exact op_mul (mul_okR (by lia)) | exact op_mul (mul_okL (by lia)) | exact op_adds (by first | assumption | lia | (simp; done) | (simp; lia)) | exact op_addl (by first | assumption | lia | (simp; done) | (simp; lia)) | exact op_muls (by first | assumption | lia | (simp; done) | (simp; lia)) (by first | assumption | lia | (simp; done) | (simp; lia)) | exact op_mull (by first | assumption | lia | (simp; done) | (simp; lia)) (by first | assumption | lia | (simp; done) | (simp; lia)) (by first | assumption | lia | (simp; done) | (simp; lia)))) (by first | exact op_add | exact op_sub | exact op_mod (by first | assumption | lia | (simp; done) | (simp; lia)) | exact op_div (by first | assumption | lia | (simp; done) | (simp; lia)) (PyProof.noPylong_small (by lia)) | exact op_mul (mul_okR (by lia)) | exact op_mul (mul_okL (by lia)) | exact op_adds (by first | assumption | lia | (simp; done) | (simp; lia)) | exact op_addl (by first | assumption | lia | (simp; done) | (simp; lia)) | exact op_muls (by first | assumption | lia | (simp; done) | (simp; lia)) (by first | assumption | lia | (simp; done) | (simp; lia)) | exact op_mull (by first | assumption | lia | (simp; done) | (simp; lia)) (by first | assumption | lia | (simp; done) | (simp; lia)) (by first | assumption | lia | (simp; done) | (simp; lia))))) eo_none (by lia)) (by rw [c2])) (ev_conv (ev_cut_str (ev_local (by repeat first | exact GetAt.head | apply GetAt.tail)) (eo_some (ev_local (by repeat first | exact GetAt.head | apply GetAt.tail))) eo_none (by lia)) (by rw [hcd])) (by first | exact cp_lt | exact cp_le | exact cp_gt | exact cp_ge | exact cp_eq | exact cp_ne | exact cp_eqs | exact cp_nes | exact cp_eqb | exact cp_in_tup | exact cp_notin_tup | exact cp_in_str | exact cp_notin_str)) (fun hb => (et_cmp (ev_call0 (ev_globalR (by repeat first | exact List.Mem.head _ | apply List.Mem.tail) K.g_law_column_of) K.d_law_column_of.isFn (el_cons (ev_local (by repeat first | exact GetAt.head | apply GetAt.tail)) (el_cons (ev_cell (by repeat first | exact List.Mem.head _ | apply List.Mem.tail) (by repeat first | exact List.Mem.head _ | apply List.Mem.tail)) el_nil)) (K.f_column_of (by lia) (by lia)) (by decide)) (ev_bin (ev_bin (ev_bin (ev_call0 (ev_globalR (by repeat first | exact List.Mem.head _ | apply List.Mem.tail) K.g_law_column_of) K.d_law_column_of.isFn (el_cons (ev_local (by repeat first | exact GetAt.head | apply GetAt.tail)) (el_cons (ev_cell (by repeat first | exact List.Mem.head _ | apply List.Mem.tail) (by repeat first | exact List.Mem.head _ | apply List.Mem.tail)) el_nil)) (K.f_column_of (by lia) (by lia)) (by decide)) (ev_cell (by repeat first | exact List.Mem.head _ | apply List.Mem.tail) (by repeat first | exact List.Mem.head _ | apply List.Mem.tail)) (by first | exact op_add | exact op_sub | exact op_mod (by first | assumption | lia | (simp; done) | (simp; lia)) | exact op_div (by first | assumption | lia | (simp; done) | (simp; lia)) (PyProof.noPylong_small (by lia)) | exact op_mul (mul_okR (by lia)) | exact op_mul (mul_okL (by lia)) | exact op_adds (by first | assumption | lia | (simp; done) | (simp; lia)) | exact op_addl (by first | assumption | lia | (simp; done) | (simp; lia)) | exact op_muls (by first | assumption | lia | (simp; done) | (simp; lia)) (by first | assumption | lia | (simp; done) | (simp; lia)) | exact op_mull (by first | assumption | lia | (simp; done) | (simp; lia)) (by first | assumption | lia | (simp; done) | (simp; lia)) (by first | assumption | lia | (simp; done) | (simp; lia)))) ev_int (by first | exact op_add | exact op_sub | exact op_mod (by first | assumption | lia | (simp; done) | (simp; lia)) | exact op_div (by first | assumption | lia | (simp; done) | (simp; lia)) (PyProof.noPylong_small (by lia)) | exact op_mul (mul_okR (by lia)) | exact op_mul (mul_okL (by lia)) | exact op_adds (by first | assumption | lia | (simp; done) | (simp; lia)) | exact op_addl (by first | assumption | lia | (simp; done) | (simp; lia)) | exact op_muls (by first | assumption | lia | (simp; done) | (simp; lia)) (by first | assumption | lia | (simp; done) | (simp; lia)) | exact op_mull (by first | assumption | lia | (simp; done) | (simp; lia)) (by first | assumption | lia | (simp; done) | (simp; lia)) (by first | assumption | lia | (simp; done) | (simp; lia)))) (ev_cell (by repeat first | exact List.Mem.head _ | apply List.Mem.tail) (by repeat first | exact List.Mem.head _ | apply List.Mem.tail)) (by first | exact op_add | exact op_sub | exact op_mod (by first | assumption | lia | (simp; done) | (simp; lia)) | exact op_div (by first | assumption | lia | (simp; done) | (simp; lia)) (PyProof.noPylong_small (by lia)) | exact op_mul (mul_okR (by lia)) | exact op_mul (mul_okL (by lia)) | exact op_adds (by first | assumption | lia | (simp; done) | (simp; lia)) | exact op_addl (by first | assumption | lia | (simp; done) | (simp; lia)) | exact op_muls (by first | assumption | lia | (simp; done) | (simp; lia)) (by first | assumption | lia | (simp; done) | (simp; lia)) | exact op_mull (by first | assumption | lia | (simp; done) | (simp; lia)) (by first | assumption | lia | (simp; done) | (simp; lia)) (by first | assumption | lia | (simp; done) | (simp; lia)))) (by first | exact cp_lt | exact cp_le | exact cp_gt | exact cp_ge | exact cp_eq | exact cp_ne | exact cp_eqs | exact cp_nes | exact cp_eqb | exact cp_in_tup | exact cp_notin_tup | exact cp_in_str | exact cp_notin_str)))) (fun hb => ?_) (fun _ => ?_)
  · rw [hcol] at hb; simp at hb
  refine ex_if (et_or (et_cmp (ev_smeth PySem.F.slot_str_rstrip PySem.F.type_str_rstrip (ev_local (by repeat first | exact GetAt.head | apply GetAt.tail)) (el_cons (ev_str (l := [32, 9]) rfl) el_nil) (by first | exact bi_len_list (by first | assumption | lia | (simp; done) | (simp; lia)) | exact bi_len_str (by first | assumption | lia | (simp; done) | (simp; lia)) | exact bi_abs | exact bi_max | exact bi_min | exact bi_chr (by first | assumption | lia | (simp; done) | (simp; lia)) (by first | assumption | lia | (simp; done) | (simp; lia)) | exact bi_ord | exact bi_lstrip (by first | assumption | lia | (simp; done) | (simp; lia)) | exact bi_rstrip (by first | assumption | lia | (simp; done) | (simp; lia)) | exact bi_strip (by first | assumption | lia | (simp; done) | (simp; lia)) | exact bi_count | exact bi_expandtabs (by first | assumption | lia | (simp; done) | (simp; lia)) (by first | assumption | lia | (simp; done) | (simp; lia)) (by first | assumption | lia | (simp; done) | (simp; lia)) | exact bi_split (by first | assumption | lia | (simp; done) | (simp; lia)) | exact bi_sorted2)) (ev_smeth PySem.F.slot_str_rstrip PySem.F.type_str_rstrip (ev_local (by repeat first | exact GetAt.head | apply GetAt.tail)) (el_cons (ev_str (l := [32, 9]) rfl) el_nil) (by first | exact bi_len_list (by first | assumption | lia | (simp; done) | (simp; lia)) | exact bi_len_str (by first | assumption | lia | (simp; done) | (simp; lia)) | exact bi_abs | exact bi_max | exact bi_min | exact bi_chr (by first | assumption | lia | (simp; done) | (simp; lia)) (by first | assumption | lia | (simp; done) | (simp; lia)) | exact bi_ord | exact bi_lstrip (by first | assumption | lia | (simp; done) | (simp; lia)) | exact bi_rstrip (by first | assumption | lia | (simp; done) | (simp; lia)) | exact bi_strip (by first | assumption | lia | (simp; done) | (simp; lia)) | exact bi_count | exact bi_expandtabs (by first | assumption | lia | (simp; done) | (simp; lia)) (by first | assumption | lia | (simp; done) | (simp; lia)) (by first | assumption | lia | (simp; done) | (simp; lia)) | exact bi_split (by first | assumption | lia | (simp; done) | (simp; lia)) | exact bi_sorted2)) (by first | exact cp_lt | exact cp_le | exact cp_gt | exact cp_ge | exact cp_eq | exact cp_ne | exact cp_eqs | exact cp_nes | exact cp_eqb | exact cp_in_tup | exact cp_notin_tup | exact cp_in_str | exact cp_notin_str)) (fun hb => (et_and (et_not (et_value (ev_cell (by repeat first | exact List.Mem.head _ | apply List.Mem.tail) (by repeat first | exact List.Mem.head _ | apply List.Mem.tail)))) (fun hb => (et_cmp (ev_str (l := [9]) rfl) (ev_conv (ev_cut_str (ev_local (by repeat first | exact GetAt.head | apply GetAt.tail)) (eo_some (ev_callB (ev_builtin (by repeat first | exact List.Mem.head _ | apply List.Mem.tail) K.g_len rfl (by decide)) (el_cons (ev_smeth PySem.F.slot_str_rstrip PySem.F.type_str_rstrip (ev_local (by repeat first | exact GetAt.head | apply GetAt.tail)) (el_cons (ev_str (l := [32, 9]) rfl) el_nil) (by first | exact bi_len_list (by first | assumption | lia | (simp; done) | (simp; lia)) | exact bi_len_str (by first | assumption | lia | (simp; done) | (simp; lia)) | exact bi_abs | exact bi_max | exact bi_min | exact bi_chr (by first | assumption | lia | (simp; done) | (simp; lia)) (by first | assumption | lia | (simp; done) | (simp; lia)) | exact bi_ord | exact bi_lstrip (by first | assumption | lia | (simp; done) | (simp; lia)) | exact bi_rstrip (by first | assumption | lia | (simp; done) | (simp; lia)) | exact bi_strip (by first | assumption | lia | (simp; done) | (simp; lia)) | exact bi_count | exact bi_expandtabs (by first | assumption | lia | (simp; done) | (simp; lia)) (by first | assumption | lia | (simp; done) | (simp; lia)) (by first | assumption | lia | (simp; done) | (simp; lia)) | exact bi_split (by first | assumption | lia | (simp; done) | (simp; lia)) | exact bi_sorted2)) el_nil) (by first | exact bi_len_list (by first | assumption | lia | (simp; done) | (simp; lia)) | exact bi_len_str (by first | assumption | lia | (simp; done) | (simp; lia)) | exact bi_abs | exact bi_max | exact bi_min | exact bi_chr (by first | assumption | lia | (simp; done) | (simp; lia)) (by first | assumption | lia | (simp; done) | (simp; lia)) | exact bi_ord | exact bi_lstrip (by first | assumption | lia | (simp; done) | (simp; lia)) | exact bi_rstrip (by first | assumption | lia | (simp; done) | (simp; lia)) | exact bi_strip (by first | assumption | lia | (simp; done) | (simp; lia)) | exact bi_count | exact bi_expandtabs (by first | assumption | lia | (simp; done) | (simp; lia)) (by first | assumption | lia | (simp; done) | (simp; lia)) (by first | assumption | lia | (simp; done) | (simp; lia)) | exact bi_split (by first | assumption | lia | (simp; done) | (simp; lia)) | exact bi_sorted2))) eo_none (by lia)) (by rw [c3])) (by first | exact cp_lt | exact cp_le | exact cp_gt | exact cp_ge | exact cp_eq | exact cp_ne | exact cp_eqs | exact cp_nes | exact cp_eqb | exact cp_in_tup | exact cp_notin_tup | exact cp_in_str | exact cp_notin_str)))))) (fun hb => ?_) (fun _ => ?_)
  · rw [hrs] at hb
    rcases htab with ht | ht
    · rw [ht] at hb; simp at hb
    · rw [hrs] at ht
      have : (List.drop (rstr (hdL t i)).length A).contains 9 = false := by simpa using ht
      rw [this] at hb; simp at hb
  clear hmade hlM hBl hlast hcol hrs htab hse
  have hsp := hE.spE i hil
  obtain ⟨p, B2, hp, hfwd, hspl2, hlst, hBl2, hcol2'⟩ := split_ok hE.ab hw.1 hil tabs
  rw [hspl2] at hsp
  have hB2l : B2.length ≤ 1000 := by have := hsp.2.2.1; simp at this; lia
  refine ex_unpack (ps := [edt f (p, p, 10 :: B2), .int (f + (p : Nat))]) (ev_conv (ev_call0 (ev_globalR (by repeat first | exact List.Mem.head _ | apply List.Mem.tail) K.g_split_edit) K.d_split_edit.isFn (el_cons (ev_local (by repeat first | exact GetAt.head | apply GetAt.tail)) (el_cons (ev_bin (ev_local (by repeat first | exact GetAt.head | apply GetAt.tail)) (ev_local (by repeat first | exact GetAt.head | apply GetAt.tail)) (by first | exact op_add | exact op_sub | exact op_mod (by first | assumption | lia | (simp; done) | (simp; lia)) | exact op_div (by first | assumption | lia | (simp; done) | (simp; lia)) (PyProof.noPylong_small (by lia)) | exact op_mul (mul_okR (by lia)) | exact op_mul (mul_okL (by lia)) | exact op_adds (by first | assumption | lia | (simp; done) | (simp; lia)) | exact op_addl (by first | assumption | lia | (simp; done) | (simp; lia)) | exact op_muls (by first | assumption | lia | (simp; done) | (simp; lia)) (by first | assumption | lia | (simp; done) | (simp; lia)) | exact op_mull (by first | assumption | lia | (simp; done) | (simp; lia)) (by first | assumption | lia | (simp; done) | (simp; lia)) (by first | assumption | lia | (simp; done) | (simp; lia)))) (el_cons (ev_cell (by repeat first | exact List.Mem.head _ | apply List.Mem.tail) (by repeat first | exact List.Mem.head _ | apply List.Mem.tail)) (el_cons (ev_cell (by repeat first | exact List.Mem.head _ | apply List.Mem.tail) (by repeat first | exact List.Mem.head _ | apply List.Mem.tail)) el_nil)))) (K.f_split_edit t f i tabs (by lia) (by lia) (by lia) hil rfl hE.btB) (by decide)) (by rw [hspl2, hfwd])) (.cons (.loc (by repeat first | exact SetAt.head | apply SetAt.tail)) (.cons (.loc (by repeat first | exact SetAt.head | apply SetAt.tail)) .nil)) ?_
  have hparts : done t [(p, p, 10 :: B2)] = t.take p ++ 10 :: B2 ++ t.drop p := rfl
  refine ex_assign (p := .str (t.take p ++ 10 :: B2 ++ t.drop p)) (ev_conv (ev_call0 (ev_globalR (by repeat first | exact List.Mem.head _ | apply List.Mem.tail) K.g_law_done) K.d_law_done.isFn (el_cons (ev_local (by repeat first | exact GetAt.head | apply GetAt.tail)) (el_cons (ev_list (el_cons (ev_local (by repeat first | exact GetAt.head | apply GetAt.tail)) el_nil) (by simp)) (el_cons (ev_local (by repeat first | exact GetAt.head | apply GetAt.tail)) el_nil))) (K.f_done (es := [(p, p, 10 :: B2)]) (by lia) (by simp) (by lia) (one_ok hsp)) (by decide)) (by rw [hparts])) (by repeat first | exact SetAt.head | apply SetAt.tail) ?_
  have hdp : (t.drop i).length ≤ 17 := by rw [List.length_drop]; lia
  refine ex_assign (p := .str (t.drop p)) (ev_conv (ev_smeth PySem.F.slot_str_lstrip PySem.F.type_str_lstrip (ev_conv (ev_cut_str (ev_local (by repeat first | exact GetAt.head | apply GetAt.tail)) (eo_some (ev_local (by repeat first | exact GetAt.head | apply GetAt.tail))) eo_none (by lia)) (by rw [hcd])) (el_cons (ev_str (l := [32, 9]) rfl) el_nil) (by first | exact bi_len_list (by first | assumption | lia | (simp; done) | (simp; lia)) | exact bi_len_str (by first | assumption | lia | (simp; done) | (simp; lia)) | exact bi_abs | exact bi_max | exact bi_min | exact bi_chr (by first | assumption | lia | (simp; done) | (simp; lia)) (by first | assumption | lia | (simp; done) | (simp; lia)) | exact bi_ord | exact bi_lstrip (by first | assumption | lia | (simp; done) | (simp; lia)) | exact bi_rstrip (by first | assumption | lia | (simp; done) | (simp; lia)) | exact bi_strip (by first | assumption | lia | (simp; done) | (simp; lia)) | exact bi_count | exact bi_expandtabs (by first | assumption | lia | (simp; done) | (simp; lia)) (by first | assumption | lia | (simp; done) | (simp; lia)) (by first | assumption | lia | (simp; done) | (simp; lia)) | exact bi_split (by first | assumption | lia | (simp; done) | (simp; lia)) | exact bi_sorted2)) (by rw [hlst])) (by repeat first | exact SetAt.head | apply SetAt.tail) ?_
  have hdpl : (t.drop p).length = t.length - p := List.length_drop
  have c4 : cut t none (some ((t.length : Int) - (((t.drop p).length : Nat) : Int))) = t.take p := by rw [cut_take _ (by lia), hdpl]; congr 1; lia
  refine ex_assign (ev_conv (ev_cut_str (ev_local (by repeat first | exact GetAt.head | apply GetAt.tail)) eo_none (eo_some (ev_bin (ev_callB (ev_builtin (by repeat first | exact List.Mem.head _ | apply List.Mem.tail) K.g_len rfl (by decide)) (el_cons (ev_local (by repeat first | exact GetAt.head | apply GetAt.tail)) el_nil) (by first | exact bi_len_list (by first | assumption | lia | (simp; done) | (simp; lia)) | exact bi_len_str (by first | assumption | lia | (simp; done) | (simp; lia)) | exact bi_abs | exact bi_max | exact bi_min | exact bi_chr (by first | assumption | lia | (simp; done) | (simp; lia)) (by first | assumption | lia | (simp; done) | (simp; lia)) | exact bi_ord | exact bi_lstrip (by first | assumption | lia | (simp; done) | (simp; lia)) | exact bi_rstrip (by first | assumption | lia | (simp; done) | (simp; lia)) | exact bi_strip (by first | assumption | lia | (simp; done) | (simp; lia)) | exact bi_count | exact bi_expandtabs (by first | assumption | lia | (simp; done) | (simp; lia)) (by first | assumption | lia | (simp; done) | (simp; lia)) (by first | assumption | lia | (simp; done) | (simp; lia)) | exact bi_split (by first | assumption | lia | (simp; done) | (simp; lia)) | exact bi_sorted2)) (ev_callB (ev_builtin (by repeat first | exact List.Mem.head _ | apply List.Mem.tail) K.g_len rfl (by decide)) (el_cons (ev_local (by repeat first | exact GetAt.head | apply GetAt.tail)) el_nil) (by first | exact bi_len_list (by first | assumption | lia | (simp; done) | (simp; lia)) | exact bi_len_str (by first | assumption | lia | (simp; done) | (simp; lia)) | exact bi_abs | exact bi_max | exact bi_min | exact bi_chr (by first | assumption | lia | (simp; done) | (simp; lia)) (by first | assumption | lia | (simp; done) | (simp; lia)) | exact bi_ord | exact bi_lstrip (by first | assumption | lia | (simp; done) | (simp; lia)) | exact bi_rstrip (by first | assumption | lia | (simp; done) | (simp; lia)) | exact bi_strip (by first | assumption | lia | (simp; done) | (simp; lia)) | exact bi_count | exact bi_expandtabs (by first | assumption | lia | (simp; done) | (simp; lia)) (by first | assumption | lia | (simp; done) | (simp; lia)) (by first | assumption | lia | (simp; done) | (simp; lia)) | exact bi_split (by first | assumption | lia | (simp; done) | (simp; lia)) | exact bi_sorted2)) (by first | exact op_add | exact op_sub | exact op_mod (by first | assumption | lia | (simp; done) | (simp; lia)) | exact op_div (by first | assumption | lia | (simp; done) | (simp; lia)) (PyProof.noPylong_small (by lia)) | exact op_mul (mul_okR (by lia)) | exact op_mul (mul_okL (by lia)) | exact op_adds (by first | assumption | lia | (simp; done) | (simp; lia)) | exact op_addl (by first | assumption | lia | (simp; done) | (simp; lia)) | exact op_muls (by first | assumption | lia | (simp; done) | (simp; lia)) (by first | assumption | lia | (simp; done) | (simp; lia)) | exact op_mull (by first | assumption | lia | (simp; done) | (simp; lia)) (by first | assumption | lia | (simp; done) | (simp; lia)) (by first | assumption | lia | (simp; done) | (simp; lia))))) (by lia)) (by rw [c4])) (by repeat first | exact SetAt.head | apply SetAt.tail) ?_
  have htp : (t.take p).length = p := take_len hp
  have hpl : (t.take p ++ 10 :: B2 ++ t.drop p).length = p + 1 + B2.length + (t.length - p) := by
    rw [List.length_append, List.length_append, htp, hdpl, List.length_cons]; lia
  have h11 : (t.take p ++ [10]).length = p + 1 := by rw [List.length_append, htp]; rfl
  have hsplit : t.take p ++ 10 :: B2 ++ t.drop p = (t.take p ++ [10]) ++ (B2 ++ t.drop p) := by simp
  have c5 : cut (t.take p ++ 10 :: B2 ++ t.drop p) (some ((((t.take p).length : Nat) : Int) + 1)) none = B2 ++ t.drop p := by
    rw [cut_drop _ (by lia), htp, show ((p : Int) + 1).toNat = p + 1 by lia, hsplit]; exact drop_app h11
  have e6 : (((t.take p ++ 10 :: B2 ++ t.drop p).length : Nat) : Int) - (((t.drop p).length : Nat) : Int) = ((p + 1 + B2.length : Nat) : Int) := by rw [hpl, hdpl]; lia
  have h12 : (t.take p ++ 10 :: B2).length = p + 1 + B2.length := by rw [List.length_append, htp, List.length_cons]; lia
  have c6 : cut (t.take p ++ 10 :: B2 ++ t.drop p) (some ((((t.take p ++ 10 :: B2 ++ t.drop p).length : Nat) : Int) - (((t.drop p).length : Nat) : Int))) none = t.drop p := by
    rw [e6, cut_drop _ (by lia), Int.toNat_natCast]; exact drop_app h12
  have c7 : cut (t.take p ++ 10 :: B2 ++ t.drop p) (some ((((t.take p).length : Nat) : Int) + 1)) (some ((((t.take p ++ 10 :: B2 ++ t.drop p).length : Nat) : Int) - (((t.drop p).length : Nat) : Int))) = B2 := by
    rw [e6, cut_mid _ (by lia) (by lia), htp, show ((p : Int) + 1).toNat = p + 1 by lia, Int.toNat_natCast, take_app h12, show t.take p ++ 10 :: B2 = (t.take p ++ [10]) ++ B2 by simp]
    exact drop_app h11
  refine ex_if (et_or3 (et_cmp (ev_local (by repeat first | exact GetAt.head | apply GetAt.tail)) (ev_bin (ev_bin (ev_local (by repeat first | exact GetAt.head | apply GetAt.tail)) (ev_str (l := [10]) rfl) (by first | exact op_add | exact op_sub | exact op_mod (by first | assumption | lia | (simp; done) | (simp; lia)) | exact op_div (by first | assumption | lia | (simp; done) | (simp; lia)) (PyProof.noPylong_small (by lia)) | exact op_mul (mul_okR (by lia)) | exact op_mul (mul_okL (by lia)) | exact op_adds (by first | assumption | lia | (simp; done) | (simp; lia)) | exact op_addl (by first | assumption | lia | (simp; done) | (simp; lia)) | exact op_muls (by first | assumption | lia | (simp; done) | (simp; lia)) (by first | assumption | lia | (simp; done) | (simp; lia)) | exact op_mull (by first | assumption | lia | (simp; done) | (simp; lia)) (by first | assumption | lia | (simp; done) | (simp; lia)) (by first | assumption | lia | (simp; done) | (simp; lia)))) (ev_conv (ev_cut_str (ev_local (by repeat first | exact GetAt.head | apply GetAt.tail)) (eo_some (ev_bin (ev_callB (ev_builtin (by repeat first | exact List.Mem.head _ | apply List.Mem.tail) K.g_len rfl (by decide)) (el_cons (ev_local (by repeat first | exact GetAt.head | apply GetAt.tail)) el_nil) (by first | exact bi_len_list (by first | assumption | lia | (simp; done) | (simp; lia)) | exact bi_len_str (by first | assumption | lia | (simp; done) | (simp; lia)) | exact bi_abs | exact bi_max | exact bi_min | exact bi_chr (by first | assumption | lia | (simp; done) | (simp; lia)) (by first | assumption | lia | (simp; done) | (simp; lia)) | exact bi_ord | exact bi_lstrip (by first | assumption | lia | (simp; done) | (simp; lia)) | exact bi_rstrip (by first | assumption | lia | (simp; done) | (simp; lia)) | exact bi_strip (by first | assumption | lia | (simp; done) | (simp; lia)) | exact bi_count | exact bi_expandtabs (by first | assumption | lia | (simp; done) | (simp; lia)) (by first | assumption | lia | (simp; done) | (simp; lia)) (by first | assumption | lia | (simp; done) | (simp; lia)) | exact bi_split (by first | assumption | lia | (simp; done) | (simp; lia)) | exact bi_sorted2)) ev_int (by first | exact op_add | exact op_sub | exact op_mod (by first | assumption | lia | (simp; done) | (simp; lia)) | exact op_div (by first | assumption | lia | (simp; done) | (simp; lia)) (PyProof.noPylong_small (by lia)) | exact op_mul (mul_okR (by lia)) | exact op_mul (mul_okL (by lia)) | exact op_adds (by first | assumption | lia | (simp; done) | (simp; lia)) | exact op_addl (by first | assumption | lia | (simp; done) | (simp; lia)) | exact op_muls (by first | assumption | lia | (simp; done) | (simp; lia)) (by first | assumption | lia | (simp; done) | (simp; lia)) | exact op_mull (by first | assumption | lia | (simp; done) | (simp; lia)) (by first | assumption | lia | (simp; done) | (simp; lia)) (by first | assumption | lia | (simp; done) | (simp; lia))))) eo_none (by lia)) (by rw [c5])) (by first | exact op_add | exact op_sub | exact op_mod (by first | assumption | lia | (simp; done) | (simp; lia)) | exact op_div (by first | assumption | lia | (simp; done) | (simp; lia)) (PyProof.noPylong_small (by lia)) | exact op_mul (mul_okR (by lia)) | exact op_mul (mul_okL (by lia)) | exact op_adds (by first | assumption | lia | (simp; done) | (simp; lia)) | exact op_addl (by first | assumption | lia | (simp; done) | (simp; lia)) | exact op_muls (by first | assumption | lia | (simp; done) | (simp; lia)) (by first | assumption | lia | (simp; done) | (simp; lia)) | exact op_mull (by first | assumption | lia | (simp; done) | (simp; lia)) (by first | assumption | lia | (simp; done) | (simp; lia)) (by first | assumption | lia | (simp; done) | (simp; lia)))) (by first | exact cp_lt | exact cp_le | exact cp_gt | exact cp_ge | exact cp_eq | exact cp_ne | exact cp_eqs | exact cp_nes | exact cp_eqb | exact cp_in_tup | exact cp_notin_tup | exact cp_in_str | exact cp_notin_str)) (fun hb => (et_cmp (ev_local (by repeat first | exact GetAt.head | apply GetAt.tail)) (ev_bin (ev_local (by repeat first | exact GetAt.head | apply GetAt.tail)) (ev_callB (ev_builtin (by repeat first | exact List.Mem.head _ | apply List.Mem.tail) K.g_len rfl (by decide)) (el_cons (ev_local (by repeat first | exact GetAt.head | apply GetAt.tail)) el_nil) (by first | exact bi_len_list (by first | assumption | lia | (simp; done) | (simp; lia)) | exact bi_len_str (by first | assumption | lia | (simp; done) | (simp; lia)) | exact bi_abs | exact bi_max | exact bi_min | exact bi_chr (by first | assumption | lia | (simp; done) | (simp; lia)) (by first | assumption | lia | (simp; done) | (simp; lia)) | exact bi_ord | exact bi_lstrip (by first | assumption | lia | (simp; done) | (simp; lia)) | exact bi_rstrip (by first | assumption | lia | (simp; done) | (simp; lia)) | exact bi_strip (by first | assumption | lia | (simp; done) | (simp; lia)) | exact bi_count | exact bi_expandtabs (by first | assumption | lia | (simp; done) | (simp; lia)) (by first | assumption | lia | (simp; done) | (simp; lia)) (by first | assumption | lia | (simp; done) | (simp; lia)) | exact bi_split (by first | assumption | lia | (simp; done) | (simp; lia)) | exact bi_sorted2)) (by first | exact op_add | exact op_sub | exact op_mod (by first | assumption | lia | (simp; done) | (simp; lia)) | exact op_div (by first | assumption | lia | (simp; done) | (simp; lia)) (PyProof.noPylong_small (by lia)) | exact op_mul (mul_okR (by lia)) | exact op_mul (mul_okL (by lia)) | exact op_adds (by first | assumption | lia | (simp; done) | (simp; lia)) | exact op_addl (by first | assumption | lia | (simp; done) | (simp; lia)) | exact op_muls (by first | assumption | lia | (simp; done) | (simp; lia)) (by first | assumption | lia | (simp; done) | (simp; lia)) | exact op_mull (by first | assumption | lia | (simp; done) | (simp; lia)) (by first | assumption | lia | (simp; done) | (simp; lia)) (by first | assumption | lia | (simp; done) | (simp; lia)))) (by first | exact cp_lt | exact cp_le | exact cp_gt | exact cp_ge | exact cp_eq | exact cp_ne | exact cp_eqs | exact cp_nes | exact cp_eqb | exact cp_in_tup | exact cp_notin_tup | exact cp_in_str | exact cp_notin_str))) (fun hb2 => (et_cmp (ev_conv (ev_cut_str (ev_local (by repeat first | exact GetAt.head | apply GetAt.tail)) (eo_some (ev_bin (ev_callB (ev_builtin (by repeat first | exact List.Mem.head _ | apply List.Mem.tail) K.g_len rfl (by decide)) (el_cons (ev_local (by repeat first | exact GetAt.head | apply GetAt.tail)) el_nil) (by first | exact bi_len_list (by first | assumption | lia | (simp; done) | (simp; lia)) | exact bi_len_str (by first | assumption | lia | (simp; done) | (simp; lia)) | exact bi_abs | exact bi_max | exact bi_min | exact bi_chr (by first | assumption | lia | (simp; done) | (simp; lia)) (by first | assumption | lia | (simp; done) | (simp; lia)) | exact bi_ord | exact bi_lstrip (by first | assumption | lia | (simp; done) | (simp; lia)) | exact bi_rstrip (by first | assumption | lia | (simp; done) | (simp; lia)) | exact bi_strip (by first | assumption | lia | (simp; done) | (simp; lia)) | exact bi_count | exact bi_expandtabs (by first | assumption | lia | (simp; done) | (simp; lia)) (by first | assumption | lia | (simp; done) | (simp; lia)) (by first | assumption | lia | (simp; done) | (simp; lia)) | exact bi_split (by first | assumption | lia | (simp; done) | (simp; lia)) | exact bi_sorted2)) (ev_callB (ev_builtin (by repeat first | exact List.Mem.head _ | apply List.Mem.tail) K.g_len rfl (by decide)) (el_cons (ev_local (by repeat first | exact GetAt.head | apply GetAt.tail)) el_nil) (by first | exact bi_len_list (by first | assumption | lia | (simp; done) | (simp; lia)) | exact bi_len_str (by first | assumption | lia | (simp; done) | (simp; lia)) | exact bi_abs | exact bi_max | exact bi_min | exact bi_chr (by first | assumption | lia | (simp; done) | (simp; lia)) (by first | assumption | lia | (simp; done) | (simp; lia)) | exact bi_ord | exact bi_lstrip (by first | assumption | lia | (simp; done) | (simp; lia)) | exact bi_rstrip (by first | assumption | lia | (simp; done) | (simp; lia)) | exact bi_strip (by first | assumption | lia | (simp; done) | (simp; lia)) | exact bi_count | exact bi_expandtabs (by first | assumption | lia | (simp; done) | (simp; lia)) (by first | assumption | lia | (simp; done) | (simp; lia)) (by first | assumption | lia | (simp; done) | (simp; lia)) | exact bi_split (by first | assumption | lia | (simp; done) | (simp; lia)) | exact bi_sorted2)) (by first | exact op_add | exact op_sub | exact op_mod (by first | assumption | lia | (simp; done) | (simp; lia)) | exact op_div (by first | assumption | lia | (simp; done) | (simp; lia)) (PyProof.noPylong_small (by lia)) | exact op_mul (mul_okR (by lia)) | exact op_mul (mul_okL (by lia)) | exact op_adds (by first | assumption | lia | (simp; done) | (simp; lia)) | exact op_addl (by first | assumption | lia | (simp; done) | (simp; lia)) | exact op_muls (by first | assumption | lia | (simp; done) | (simp; lia)) (by first | assumption | lia | (simp; done) | (simp; lia)) | exact op_mull (by first | assumption | lia | (simp; done) | (simp; lia)) (by first | assumption | lia | (simp; done) | (simp; lia)) (by first | assumption | lia | (simp; done) | (simp; lia))))) eo_none (by lia)) (by rw [c6])) (ev_local (by repeat first | exact GetAt.head | apply GetAt.tail)) (by first | exact cp_lt | exact cp_le | exact cp_gt | exact cp_ge | exact cp_eq | exact cp_ne | exact cp_eqs | exact cp_nes | exact cp_eqb | exact cp_in_tup | exact cp_notin_tup | exact cp_in_str | exact cp_notin_str)))) (fun hb => ?_) (fun _ => ?_)
  · rw [hsplit, htp] at hb; simp at hb
  refine ex_assign (ev_conv (ev_cut_str (ev_local (by repeat first | exact GetAt.head | apply GetAt.tail)) (eo_some (ev_bin (ev_callB (ev_builtin (by repeat first | exact List.Mem.head _ | apply List.Mem.tail) K.g_len rfl (by decide)) (el_cons (ev_local (by repeat first | exact GetAt.head | apply GetAt.tail)) el_nil) (by first | exact bi_len_list (by first | assumption | lia | (simp; done) | (simp; lia)) | exact bi_len_str (by first | assumption | lia | (simp; done) | (simp; lia)) | exact bi_abs | exact bi_max | exact bi_min | exact bi_chr (by first | assumption | lia | (simp; done) | (simp; lia)) (by first | assumption | lia | (simp; done) | (simp; lia)) | exact bi_ord | exact bi_lstrip (by first | assumption | lia | (simp; done) | (simp; lia)) | exact bi_rstrip (by first | assumption | lia | (simp; done) | (simp; lia)) | exact bi_strip (by first | assumption | lia | (simp; done) | (simp; lia)) | exact bi_count | exact bi_expandtabs (by first | assumption | lia | (simp; done) | (simp; lia)) (by first | assumption | lia | (simp; done) | (simp; lia)) (by first | assumption | lia | (simp; done) | (simp; lia)) | exact bi_split (by first | assumption | lia | (simp; done) | (simp; lia)) | exact bi_sorted2)) ev_int (by first | exact op_add | exact op_sub | exact op_mod (by first | assumption | lia | (simp; done) | (simp; lia)) | exact op_div (by first | assumption | lia | (simp; done) | (simp; lia)) (PyProof.noPylong_small (by lia)) | exact op_mul (mul_okR (by lia)) | exact op_mul (mul_okL (by lia)) | exact op_adds (by first | assumption | lia | (simp; done) | (simp; lia)) | exact op_addl (by first | assumption | lia | (simp; done) | (simp; lia)) | exact op_muls (by first | assumption | lia | (simp; done) | (simp; lia)) (by first | assumption | lia | (simp; done) | (simp; lia)) | exact op_mull (by first | assumption | lia | (simp; done) | (simp; lia)) (by first | assumption | lia | (simp; done) | (simp; lia)) (by first | assumption | lia | (simp; done) | (simp; lia))))) (eo_some (ev_bin (ev_callB (ev_builtin (by repeat first | exact List.Mem.head _ | apply List.Mem.tail) K.g_len rfl (by decide)) (el_cons (ev_local (by repeat first | exact GetAt.head | apply GetAt.tail)) el_nil) (by first | exact bi_len_list (by first | assumption | lia | (simp; done) | (simp; lia)) | exact bi_len_str (by first | assumption | lia | (simp; done) | (simp; lia)) | exact bi_abs | exact bi_max | exact bi_min | exact bi_chr (by first | assumption | lia | (simp; done) | (simp; lia)) (by first | assumption | lia | (simp; done) | (simp; lia)) | exact bi_ord | exact bi_lstrip (by first | assumption | lia | (simp; done) | (simp; lia)) | exact bi_rstrip (by first | assumption | lia | (simp; done) | (simp; lia)) | exact bi_strip (by first | assumption | lia | (simp; done) | (simp; lia)) | exact bi_count | exact bi_expandtabs (by first | assumption | lia | (simp; done) | (simp; lia)) (by first | assumption | lia | (simp; done) | (simp; lia)) (by first | assumption | lia | (simp; done) | (simp; lia)) | exact bi_split (by first | assumption | lia | (simp; done) | (simp; lia)) | exact bi_sorted2)) (ev_callB (ev_builtin (by repeat first | exact List.Mem.head _ | apply List.Mem.tail) K.g_len rfl (by decide)) (el_cons (ev_local (by repeat first | exact GetAt.head | apply GetAt.tail)) el_nil) (by first | exact bi_len_list (by first | assumption | lia | (simp; done) | (simp; lia)) | exact bi_len_str (by first | assumption | lia | (simp; done) | (simp; lia)) | exact bi_abs | exact bi_max | exact bi_min | exact bi_chr (by first | assumption | lia | (simp; done) | (simp; lia)) (by first | assumption | lia | (simp; done) | (simp; lia)) | exact bi_ord | exact bi_lstrip (by first | assumption | lia | (simp; done) | (simp; lia)) | exact bi_rstrip (by first | assumption | lia | (simp; done) | (simp; lia)) | exact bi_strip (by first | assumption | lia | (simp; done) | (simp; lia)) | exact bi_count | exact bi_expandtabs (by first | assumption | lia | (simp; done) | (simp; lia)) (by first | assumption | lia | (simp; done) | (simp; lia)) (by first | assumption | lia | (simp; done) | (simp; lia)) | exact bi_split (by first | assumption | lia | (simp; done) | (simp; lia)) | exact bi_sorted2)) (by first | exact op_add | exact op_sub | exact op_mod (by first | assumption | lia | (simp; done) | (simp; lia)) | exact op_div (by first | assumption | lia | (simp; done) | (simp; lia)) (PyProof.noPylong_small (by lia)) | exact op_mul (mul_okR (by lia)) | exact op_mul (mul_okL (by lia)) | exact op_adds (by first | assumption | lia | (simp; done) | (simp; lia)) | exact op_addl (by first | assumption | lia | (simp; done) | (simp; lia)) | exact op_muls (by first | assumption | lia | (simp; done) | (simp; lia)) (by first | assumption | lia | (simp; done) | (simp; lia)) | exact op_mull (by first | assumption | lia | (simp; done) | (simp; lia)) (by first | assumption | lia | (simp; done) | (simp; lia)) (by first | assumption | lia | (simp; done) | (simp; lia))))) (by lia)) (by rw [c7])) (by repeat first | exact SetAt.head | apply SetAt.tail) ?_
  have hhp := hdL_len t p
  refine ex_if (et_or (et_cmp (ev_smeth PySem.F.slot_str_strip PySem.F.type_str_strip (ev_local (by repeat first | exact GetAt.head | apply GetAt.tail)) (el_cons (ev_str (l := [32, 9]) rfl) el_nil) (by first | exact bi_len_list (by first | assumption | lia | (simp; done) | (simp; lia)) | exact bi_len_str (by first | assumption | lia | (simp; done) | (simp; lia)) | exact bi_abs | exact bi_max | exact bi_min | exact bi_chr (by first | assumption | lia | (simp; done) | (simp; lia)) (by first | assumption | lia | (simp; done) | (simp; lia)) | exact bi_ord | exact bi_lstrip (by first | assumption | lia | (simp; done) | (simp; lia)) | exact bi_rstrip (by first | assumption | lia | (simp; done) | (simp; lia)) | exact bi_strip (by first | assumption | lia | (simp; done) | (simp; lia)) | exact bi_count | exact bi_expandtabs (by first | assumption | lia | (simp; done) | (simp; lia)) (by first | assumption | lia | (simp; done) | (simp; lia)) (by first | assumption | lia | (simp; done) | (simp; lia)) | exact bi_split (by first | assumption | lia | (simp; done) | (simp; lia)) | exact bi_sorted2)) (ev_str (l := []) rfl) (by first | exact cp_lt | exact cp_le | exact cp_gt | exact cp_ge | exact cp_eq | exact cp_ne | exact cp_eqs | exact cp_nes | exact cp_eqb | exact cp_in_tup | exact cp_notin_tup | exact cp_in_str | exact cp_notin_str)) (fun hb => (et_cmp (ev_call0 (ev_globalR (by repeat first | exact List.Mem.head _ | apply List.Mem.tail) K.g_law_column_of) K.d_law_column_of.isFn (el_cons (ev_local (by repeat first | exact GetAt.head | apply GetAt.tail)) (el_cons (ev_cell (by repeat first | exact List.Mem.head _ | apply List.Mem.tail) (by repeat first | exact List.Mem.head _ | apply List.Mem.tail)) el_nil)) (K.f_column_of (by lia) (by lia)) (by decide)) (ev_call0 (ev_globalR (by repeat first | exact List.Mem.head _ | apply List.Mem.tail) K.g_law_column_of) K.d_law_column_of.isFn (el_cons (ev_last (ev_smeth PySem.F.slot_str_split PySem.F.type_str_split (ev_local (by repeat first | exact GetAt.head | apply GetAt.tail)) (el_cons (ev_str (l := [10]) rfl) el_nil) (by first | exact bi_len_list (by first | assumption | lia | (simp; done) | (simp; lia)) | exact bi_len_str (by first | assumption | lia | (simp; done) | (simp; lia)) | exact bi_abs | exact bi_max | exact bi_min | exact bi_chr (by first | assumption | lia | (simp; done) | (simp; lia)) (by first | assumption | lia | (simp; done) | (simp; lia)) | exact bi_ord | exact bi_lstrip (by first | assumption | lia | (simp; done) | (simp; lia)) | exact bi_rstrip (by first | assumption | lia | (simp; done) | (simp; lia)) | exact bi_strip (by first | assumption | lia | (simp; done) | (simp; lia)) | exact bi_count | exact bi_expandtabs (by first | assumption | lia | (simp; done) | (simp; lia)) (by first | assumption | lia | (simp; done) | (simp; lia)) (by first | assumption | lia | (simp; done) | (simp; lia)) | exact bi_split (by first | assumption | lia | (simp; done) | (simp; lia)) | exact bi_sorted2)) (ev_neg ev_int) (by simp; exact Nat.lt_of_le_of_lt (spl_length _) (by lia)) (last_split hp)) (el_cons (ev_cell (by repeat first | exact List.Mem.head _ | apply List.Mem.tail) (by repeat first | exact List.Mem.head _ | apply List.Mem.tail)) el_nil)) (K.f_column_of (by lia) (by lia)) (by decide)) (by first | exact cp_lt | exact cp_le | exact cp_gt | exact cp_ge | exact cp_eq | exact cp_ne | exact cp_eqs | exact cp_nes | exact cp_eqb | exact cp_in_tup | exact cp_notin_tup | exact cp_in_str | exact cp_notin_str)))) (fun hb => ?_) (fun _ => ?_)
  · rw [strp_bl hBl2, hcol2'] at hb; simp at hb
  refine ex_fsub (vs' := fr0 d) ?_ (hr ns1 hns1)
  exact .keep (.drop (.drop (.drop (.drop (.drop (.keep (.keep (.keep (.keep (.keep (.keep (.keep (.keep (.keep (.keep (.keep (.drop (.drop (.drop (.drop (.drop (.drop (.drop (.drop (.drop (.drop (.drop (.drop (Fsub.refl _)))))))))))))))))))))))))))))
end Mine

end
section
namespace Mine
open PySem

/-! how long the blanks are -/
theorem bt_len {c d : Int} {w : Nat} (hw : 0 < w) (hc : 0 ≤ c) {M : Nat} (hd : d ≤ M) (tabs : Bool) : (bt c d w tabs).length ≤ M := by
  unfold bt tabsN
  by_cases ht : (tabs && decide (c < d)) = true
  · rw [if_pos ht]
    have hcd : c < d := by
      rw [Bool.and_eq_true] at ht; exact of_decide_eq_true ht.2
    have h1 := Int.mul_ediv_add_emod d w
    have h2 := mod_bd (a := d) (w := (w : Int)) (by lia)
    have h3 := Int.ediv_nonneg hc (show (0 : Int) ≤ w by lia)
    have h4 : d / w ≤ w * (d / w) := by
      have h5 := Int.ediv_nonneg (show 0 ≤ d by lia) (show (0 : Int) ≤ w by lia)
      have : 1 * (d / w) ≤ (w : Int) * (d / w) := Int.mul_le_mul_of_nonneg_right (by lia) h5
      lia
    split
    · rw [List.length_append, List.length_replicate, List.length_replicate]; lia
    · rw [List.length_replicate]; lia
  · rw [if_neg ht, if_neg (by decide), List.length_replicate]; lia
theorem bt_low {c d w : Int} {tabs : Bool} : ∀ n ∈ bt c d w tabs, n < 1000 := fun n hn => by rcases bt_bl c d w tabs n hn with h | h <;> lia
/-- blanks from the line's head on -/
theorem bt_zero {w : Nat} (hw : 0 < w) {m : Int} (hm : 0 ≤ m) (tabs : Bool) : bt 0 m w tabs = if tabs then List.replicate (m / w).toNat 9 ++ List.replicate (m % w).toNat 32 else List.replicate m.toNat 32 := by
  unfold bt tabsN
  cases tabs
  · simp
  · simp only [Bool.true_and, if_true, decide_eq_true_eq]
    have h1 := Int.mul_ediv_add_emod m w
    have h0 : (0 : Int) / w = 0 := Int.zero_ediv _
    by_cases hp : 0 < m
    · rw [if_pos hp, h0, Int.sub_zero]
      by_cases hq : 0 < m / w
      · rw [if_pos hq]
      · have : m / w = 0 := by have := Int.ediv_nonneg hm (show (0 : Int) ≤ w by lia); lia
        rw [if_neg hq, this]
        rw [this] at h1
        simp at h1 ⊢
        rw [h1]
    · have : m = 0 := by lia
      subst this
      simp
theorem colOf_bd {w : Nat} (hw : 0 < w ∧ w ≤ 8) {l : List Nat} {k : Nat} (h : l.length ≤ k) : 0 ≤ colOf w l ∧ colOf w l ≤ k * 8 := by
  have h1 := expt_length w l 0 hw.1
  have h2 : l.length * w ≤ k * 8 := Nat.mul_le_mul h hw.2
  unfold colOf; lia
theorem indAt_line {t p x q : List Nat} (ht : AB t) (h : Line t p x q) {w : Nat} (hw : 0 < w) : indAt w t p.length = colOf w (lead x) := by
  have hx : AB x := fun n hn => ht n (by rw [h.eq]; simp [hn])
  have hlead : Bl (lead x) := fun n hn => bl_iff.mp (tw_mem hn)
  have hi := h.inE
  unfold inE Mine.fwd at hi
  unfold indAt
  have e := h.bwd (j := 0) (Nat.zero_le _)
  rw [Nat.add_zero] at e
  rw [e] at hi ⊢
  have h2 : ((t.drop p.length).takeWhile fun n : Nat => isB n) = lead x := by
    have hpre : ((t.drop p.length).takeWhile fun n : Nat => isB n) <+: t.drop p.length := List.takeWhile_prefix _
    have hpre2 : lead x <+: t.drop p.length := by rw [h.drop]; exact (List.takeWhile_prefix _).trans (List.prefix_append _ _)
    have hl : ((t.drop p.length).takeWhile fun n : Nat => isB n).length = (lead x).length := by lia
    exact (List.prefix_of_prefix_length_le hpre hpre2 (by lia)).eq_of_length hl
  rw [h2]
  have h3 := colN_endc hw (lead x) 0 hlead.ab hlead.free
  rw [Int.natCast_zero] at h3
  rw [h3, colOf_endc w hlead.ab hlead.free]
theorem isLE_line {t p x q : List Nat} (h : Line t p x q) : isLE t (inE t p.length) = decide (lstr x = []) := by
  rw [h.inE]
  have hx := List.takeWhile_append_dropWhile (p := bl) (l := x)
  have hll : (lead x).length + (lstr x).length = x.length := by
    rw [← List.length_append]; exact congrArg List.length hx
  have hl := h.len
  unfold isLE
  by_cases he : lstr x = []
  · rw [decide_eq_true he]
    rw [he] at hll
    simp at hll
    rw [hll, Bool.or_eq_true]
    rcases h.cod_end with h1 | h1
    · right; unfold notN at h1; simpa using h1
    · left; exact decide_eq_true h1
  · rw [decide_eq_false he]
    have hpos : 0 < (lstr x).length := List.length_pos_iff.mpr he
    have hlt : (lead x).length < x.length := by lia
    rw [Bool.or_eq_false_iff]
    refine ⟨decide_eq_false (by lia), decide_eq_false ?_⟩
    rw [h.cod_x hlt]
    intro e
    have : x[(lead x).length] = 10 := by lia
    exact h.free (this ▸ List.getElem_mem hlt)
theorem drop_lead (x : List Nat) : x.drop (lead x).length = lstr x := dropWhile_eq_drop bl x
theorem lineE_ok {t p x q : List Nat} (h : Line t p x q) {w : Nat} (hw : 0 < w) (tabs : Bool) {col : Int} (hne : ¬ lstr x = []) : LineEd (fun i => lineE t w tabs i col) (fun x => indd x col w tabs) p.length x := by
  have hm : 0 ≤ (if col > 0 then col else 0) := by split <;> lia
  refine ⟨rfl, ?_, ?_, ?_⟩
  · show p.length ≤ inE t p.length
    rw [h.inE]; exact Nat.le_add_right _ _
  · show inE t p.length ≤ _
    rw [h.inE]; have := lead_le x; lia
  · show bt 0 (if col > 0 then col else 0) w tabs ++ x.drop (inE t p.length - p.length) = indd x col w tabs
    rw [h.inE, Nat.add_sub_cancel_left, drop_lead, bt_zero hw hm]
    unfold indd
    rw [if_neg hne]
theorem rigid_line {t : List Nat} (ht : AB t) {w : Nat} (hw : 0 < w) (tabs : Bool) (lby : Int) (p x q : List Nat) (h : Line t p x q) : LineEd (rigidE t lby w tabs) (fun x => indd x (colOf w (lead x) + lby) w tabs) p.length x := by
  unfold LineEd rigidE
  rw [isLE_line h]
  by_cases he : lstr x = []
  · rw [decide_eq_true he, if_pos rfl]
    have hf := h.fwd (j := 0) (Nat.zero_le _)
    rw [Nat.add_zero] at hf
    rw [hf]
    refine ⟨rfl, Nat.le_add_right _ _, Nat.le_refl _, ?_⟩
    show [] ++ x.drop (p.length + x.length - p.length) = indd x (colOf w (lead x) + lby) w tabs
    rw [Nat.add_sub_cancel_left, List.drop_length]
    unfold indd; rw [if_pos he]; rfl
  · rw [decide_eq_false he, if_neg (by decide), indAt_line ht h hw]
    exact lineE_ok h hw tabs he
theorem region_line {t : List Nat} {w : Nat} (hw : 0 < w) (tabs : Bool) (col : Int) (p x q : List Nat) (h : Line t p x q) : LineEd (regionE t col w tabs) (fun x => indd x col w tabs) p.length x := by
  unfold LineEd regionE
  rw [isLE_line h]
  by_cases he : lstr x = []
  · rw [decide_eq_true he, if_pos rfl]
    have hll : (lead x).length = x.length := by
      have hx := congrArg List.length (List.takeWhile_append_dropWhile (p := bl) (l := x))
      rw [List.length_append] at hx
      have h2 : (x.dropWhile bl).length = 0 := by show (lstr x).length = 0; rw [he]; rfl
      show (x.takeWhile bl).length = _
      lia
    refine ⟨rfl, ?_, ?_, ?_⟩
    · show p.length ≤ inE t p.length
      rw [h.inE]; exact Nat.le_add_right _ _
    · show inE t p.length ≤ _
      rw [h.inE, hll]; exact Nat.le_refl _
    · show bt 0 (if (0 : Int) > 0 then 0 else 0) w tabs ++ x.drop (inE t p.length - p.length) = indd x col w tabs
      rw [h.inE, Nat.add_sub_cancel_left, drop_lead, he]
      unfold indd
      rw [if_pos he]
      rw [bt_zero hw (by decide)]
      cases tabs <;> simp
  · rw [decide_eq_false he, if_neg (by decide)]
    exact lineE_ok h hw tabs he
theorem line_at {t : List Nat} : ∀ {L : List (List Nat)} {a i : Nat}, Rem t a L → i ∈ lst a L → ∃ p x q, Line t p x q ∧ p.length = i
  | [], _, _, h, _ => absurd rfl h.ne
  | x :: r, a, i, h, hi => by
    obtain ⟨q, hl, _⟩ := h.line
    rcases List.mem_cons.mp hi with rfl | hi
    · exact ⟨_, x, q, hl, take_len h.le⟩
    · cases r with
      | nil => cases hi
      | cons y r => exact line_at h.next.1 hi
theorem inE_start {t : List Nat} {lo hi i : Nat} (hlo : lo ≤ t.length) (h : i ∈ starts t lo hi) : i ≤ inE t i ∧ inE t i ≤ t.length ∧ i ≤ fwd notN t i ∧ fwd notN t i ≤ t.length := by
  rw [starts_eq hlo (Rem.start t) (Nat.zero_le _)] at h
  obtain ⟨p, x, q, hl, rfl⟩ := line_at (Rem.start t) (List.mem_filter.mp h).1
  have h1 := hl.len
  have h2 := lead_le x
  have h3 := hl.fwd (j := 0) (Nat.zero_le _)
  rw [Nat.add_zero] at h3
  rw [hl.inE, h3]; lia
theorem sum_bd {B : Nat} : ∀ l : List Nat, (∀ n ∈ l, n ≤ B) → l.sum ≤ l.length * B
  | [], _ => Nat.zero_le _
  | a :: r, h => by
    have := sum_bd r fun n hn => h n (.tail _ hn)
    have := h a (.head _)
    rw [List.sum_cons, List.length_cons, Nat.succ_mul]; lia
theorem trL_mem {lo hi : Nat} {g : List Nat → List Nat} : ∀ {L : List (List Nat)} {a : Nat} {y : List Nat}, y ∈ trL lo hi g a L → ∃ x ∈ L, y = x ∨ y = g x
  | x :: r, a, y, h => by
    unfold trL at h
    rcases List.mem_cons.mp h with rfl | h
    · refine ⟨x, .head _, ?_⟩
      split
      · exact .inr rfl
      · exact .inl rfl
    · obtain ⟨z, h1, h2⟩ := trL_mem h
      exact ⟨z, .tail _ h1, h2⟩
theorem trB_ok {t : List Nat} (ht : t.length ≤ 17) {lo hi : Nat} {g : List Nat → List Nat} (hg : ∀ x ∈ spl t, (g x).length ≤ 1000) : TrB t lo hi g := by
  unfold TrB
  have hl := spl_length t
  rw [trL_length]
  have h1 := sum_bd (B := 1000) ((trL lo hi g 0 (spl t)).map (·.length)) fun n hn => by
    obtain ⟨y, hy, rfl⟩ := List.mem_map.mp hn
    obtain ⟨x, hx, h | h⟩ := trL_mem hy
    · rw [h]; have := spl_bd hx; lia
    · rw [h]; exact hg x hx
  rw [List.length_map, trL_length] at h1
  have h2 : (spl t).length * 1000 ≤ 18 * 1000 := Nat.mul_le_mul_right _ (by lia)
  lia
theorem indd_len {x : List Nat} {col : Int} {w : Nat} (hw : 0 < w) (tabs : Bool) {M : Nat} (hc : col ≤ M) : (indd x col w tabs).length ≤ M + x.length := by
  unfold indd
  split
  · exact Nat.zero_le _
  · have hm : 0 ≤ (if col > 0 then col else 0) := by split <;> lia
    rw [← bt_zero hw hm, List.length_append]
    have h1 := bt_len hw (c := 0) (d := if col > 0 then col else 0) (M := M) (Int.le_refl _) (by split <;> lia) tabs
    have h2 := lstr_le x
    lia
theorem plainB {t : List Nat} {w : Nat} {tabs : Bool} {lby : Int} {lo hi : Nat} (ht : AB t) (hl : t.length ≤ 17) (hw : 0 < w ∧ w ≤ 8) (hby : -6 ≤ lby ∧ lby ≤ 6) (hlh : lo ≤ hi) (hhi : hi ≤ t.length) : PlainB t w tabs lby lo hi := by
  have hlo : lo ≤ t.length := Nat.le_trans hlh hhi
  have hind : ∀ i, indAt w t i ≤ 300 ∧ 0 ≤ indAt w t i := fun i => by
    have h := colN_le (w := (w : Int)) (by lia) ((t.drop (bwd notN t i)).takeWhile fun n : Nat => isB n) 0
    have h1 : ((t.drop (bwd notN t i)).takeWhile fun n : Nat => isB n).length ≤ t.length := Nat.le_trans (List.takeWhile_prefix _).length_le (by rw [List.length_drop]; lia)
    unfold indAt
    generalize ((t.drop (bwd notN t i)).takeWhile fun n : Nat => isB n).length = n at *
    have h2 : (n : Int) * (w + 4) ≤ 17 * 12 := Int.mul_le_mul (by lia) (by lia) (by lia) (by lia)
    lia
  have hx : ∀ x ∈ spl t, x.length ≤ 17 := fun x h => Nat.le_trans (spl_bd h) hl
  have hcol : ∀ x ∈ spl t, 0 ≤ colOf w (lead x) ∧ colOf w (lead x) ≤ 17 * 8 := fun x h => colOf_bd hw (Nat.le_trans (lead_le x) (hx x h))
  refine ⟨fun i => ⟨by have := (hind i).1; lia, (hind i).2⟩, fun x h => ⟨by have := hcol x h; lia, by have := hcol x h; lia, by have := hx x h; lia⟩, ?_, fun e he => ?_, region_ok hlo (rigid_line ht hw.1 tabs lby), trB_ok hl fun x h => ?_, fun e he => ?_, region_ok hlo (region_line hw.1 tabs lby), trB_ok hl fun x h => ?_⟩
  · have := st_length (l := t) (e := hi) (k := hi) (o := if isLB t lo then some lo else nx t lo)
    unfold starts; lia
  · obtain ⟨i, hi', rfl⟩ := List.mem_map.mp he
    obtain ⟨a1, a2, a3, a4⟩ := inE_start hlo hi'
    unfold rigidE
    split
    · exact ⟨a3, by show fwd notN t i ≤ _; lia, Nat.zero_le _, fun n hn => nomatch hn⟩
    · refine ⟨a1, by show inE t i ≤ _; lia, ?_, bt_low⟩
      exact bt_len hw.1 (Int.le_refl _) (by have := hind i; split <;> lia) tabs
  · have h1 := hcol x h
    have h2 := hx x h
    have := indd_len (x := x) (col := colOf w (lead x) + lby) hw.1 tabs (M := 200) (by lia)
    lia
  · obtain ⟨i, hi', rfl⟩ := List.mem_map.mp he
    obtain ⟨a1, a2, a3, a4⟩ := inE_start hlo hi'
    unfold regionE
    refine ⟨a1, by show inE t i ≤ _; lia, ?_, bt_low⟩
    exact bt_len hw.1 (Int.le_refl _) (by split <;> split <;> lia) tabs
  · have h2 := hx x h
    have := indd_len (x := x) (col := lby) hw.1 tabs (M := 200) (by lia)
    lia
end Mine

end
section
namespace Mine
open PySem

/-! lines and columns of a whole text -/
theorem spl_pre {p : List Nat} (hp : 10 ∉ p) : ∀ {z y : List Nat} {ys : List (List Nat)}, spl z = y :: ys → spl (p ++ z) = (p ++ y) :: ys := by
  induction p with
  | nil => intro z y ys h; exact h
  | cons n p ih =>
    intro z y ys h
    have hn : n ≠ 10 := fun e => hp (by simp [e])
    rw [List.cons_append, spl, if_neg hn, ih (fun m => hp (.tail _ m)) h]; rfl
theorem spl_expt (w : Nat) : ∀ (l : List Nat) (c : Nat), AB l → ∃ y ys, spl l = y :: ys ∧ spl (expt w c l) = expt w c y :: ys.map (expt w 0)
  | [], c, _ => ⟨[], [], rfl, rfl⟩
  | n :: r, c, h => by
    by_cases h10 : n = 10
    · subst h10
      obtain ⟨y, ys, h1, h2⟩ := spl_expt w r 0 h.tail
      refine ⟨[], y :: ys, by rw [spl, if_pos rfl, h1], ?_⟩
      have e : expt w c (10 :: r) = 10 :: expt w 0 r := by rw [expt, if_neg (by decide), if_pos (.inl rfl)]
      rw [e, spl, if_pos rfl, h2]; rfl
    · by_cases h9 : n = 9
      · subst h9
        obtain ⟨y, ys, h1, h2⟩ := spl_expt w r (c + (w - c % w)) h.tail
        refine ⟨9 :: y, ys, by rw [spl, if_neg (by decide), h1], ?_⟩
        rw [expt, if_pos rfl, spl_pre (by intro hm; have := List.eq_of_mem_replicate hm; lia) h2, expt, if_pos rfl]
      · have h13 : ¬ (n = 10 ∨ n = 13) := by have := h n (.head _); lia
        obtain ⟨y, ys, h1, h2⟩ := spl_expt w r (c + 1) h.tail
        refine ⟨n :: y, ys, by rw [spl, if_neg h10, h1], ?_⟩
        rw [expt, if_neg h9, if_neg h13, spl, if_neg h10, h2, expt, if_neg h9, if_neg h13]
theorem spl_map_expt (w : Nat) {l : List Nat} (h : AB l) : (spl l).map (expt w 0) = spl (expt w 0 l) := by
  obtain ⟨y, ys, h1, h2⟩ := spl_expt w l 0 h
  rw [h1, h2]; rfl
theorem low_expt (w : Nat) : ∀ (l : List Nat) (c : Nat), Low l → Low (expt w c l)
  | [], _, _ => fun _ h => nomatch h
  | n :: r, c, h => by
    rw [expt]
    have hr : Low r := fun m hm => h m (.tail _ hm)
    split
    · intro m hm
      rcases List.mem_append.mp hm with hm | hm
      · have := List.eq_of_mem_replicate hm; lia
      · exact low_expt w r _ hr m hm
    · intro m hm
      rcases List.mem_cons.mp hm with rfl | hm
      · exact h m (.head _)
      · exact low_expt w r _ hr m hm

/-! tabify -/
abbrev tCond (w : Nat) (t : List Nat) (hi j : Nat) : Prop := j + 1 < tabB t hi j ∧ colAt w t j / w ≠ colAt w t (tabB t hi j) / w
noncomputable def tPiece (w : Nat) (t : List Nat) (hi j : Nat) : List Nat := if tCond w t hi j then bt (colAt w t j) (colAt w t (tabB t hi j)) w true else (t.take (tabB t hi j)).drop j
noncomputable def tabO (w : Nat) (t : List Nat) (hi : Nat) : Nat → Nat → List Nat
  | 0, _ => []
  | k + 1, j => if j < hi then tPiece w t hi j ++ tabO w t hi k (tabB t hi j) else []
theorem Asc.weak {t : List Nat} {es : List Edit} {j b : Nat} (h : j ≤ b) (a : Asc t b es) : Asc t j es := by
  cases es with
  | nil => exact Nat.le_trans h a
  | cons e es => exact ⟨Nat.le_trans h a.1, a.2⟩
theorem seg_drop {t : List Nat} {j b : Nat} (h : j ≤ b) : (t.take b).drop j ++ t.drop b = t.drop j := by
  by_cases hb : b ≤ t.length
  · have e : t.drop j = (t.take b ++ t.drop b).drop j := by rw [List.take_append_drop]
    rw [e, List.drop_append_of_le_length (by rw [take_len hb]; exact h)]
  · rw [List.take_of_length_le (by lia), List.drop_of_length_le (show t.length ≤ b by lia), List.append_nil]
theorem tab_asm {w : Nat} {t : List Nat} {hi : Nat} (hh : hi ≤ t.length) : ∀ (k j : Nat), hi ≤ j + k → j ≤ hi → Asc t j (tabE w t hi k j) ∧ asm t j (tabE w t hi k j) = tabO w t hi k j ++ t.drop hi
  | 0, j, h1, h2 => by
    have : j = hi := by lia
    subst this
    exact ⟨hh, rfl⟩
  | k + 1, j, h1, h2 => by
    unfold tabE tabO
    by_cases hj : j < hi
    · rw [if_pos hj, if_pos hj]
      have hb1 := tabB_gt (l := t) hj (by lia)
      have hb2 := tabB_le (l := t) hj
      obtain ⟨ih1, ih2⟩ := tab_asm (w := w) hh k (tabB t hi j) (by lia) hb2
      by_cases hc : tCond w t hi j
      · rw [if_pos hc]
        unfold tPiece
        rw [if_pos hc]
        refine ⟨⟨Nat.le_refl _, Nat.le_of_lt hb1, ih1⟩, ?_⟩
        show (t.take j).drop j ++ bt _ _ w true ++ asm t (tabB t hi j) (tabE w t hi k (tabB t hi j)) = _
        rw [ih2, List.drop_of_length_le (by rw [take_len (by lia)]; exact Nat.le_refl _), List.nil_append, List.append_assoc]
      · rw [if_neg hc]
        unfold tPiece
        rw [if_neg hc]
        refine ⟨ih1.weak (Nat.le_of_lt hb1), ?_⟩
        show asm t j (tabE w t hi k (tabB t hi j)) = _
        rw [asm_shift (Nat.le_of_lt hb1) ih1, ih2, List.append_assoc]
    · rw [if_neg hj, if_neg hj]
      have : j = hi := by lia
      subst this
      exact ⟨hh, rfl⟩
theorem endc_seg (w : Nat) {t : List Nat} {j b : Nat} (h : j ≤ b) (hb : b ≤ t.length) : endc w 0 (t.take b) = endc w (endc w 0 (t.take j)) ((t.take b).drop j) := by
  rw [← endc_app, take_drop_app h hb]
/-- the run of blanks from a space on -/
theorem run_bl {t : List Nat} {hi j : Nat} (hh : hi ≤ t.length) (hj : j < hi) (h32 : cod t j = 32) : Bl ((t.take (tabB t hi j)).drop j) := by
  have hb : tabB t hi j = min hi (fwd isB t j) := by unfold tabB; rw [if_pos h32]
  refine mid_bl (by have := tabB_le (l := t) hj; lia) fun k h1 h2 => ?_
  rw [hb] at h2
  have hk : k < fwd isB t j := by lia
  have hl : k < t.length := by lia
  unfold fwd at hk
  have hlt : k - j < ((t.drop j).takeWhile fun n : Nat => isB n).length := by lia
  have hm := List.getElem_mem hlt
  have hp : isB (((t.drop j).takeWhile fun n : Nat => isB n)[k - j] : Nat) = true := tw_mem (p := fun n : Nat => isB n) hm
  have e : ((t.drop j).takeWhile fun n : Nat => isB n)[k - j] = t[k] := by
    have h3 := (List.takeWhile_prefix (fun n : Nat => isB n) (l := t.drop j)).getElem hlt
    rw [h3, List.getElem_drop]
    congr 1; lia
  rw [cod_get hl, ← e]; exact hp
theorem piece_ok {w : Nat} (hw : 0 < w) {t : List Nat} (ht : AB t) {hi j : Nat} (hh : hi ≤ t.length) (hj : j < hi) :
    expt w (endc w 0 (t.take j)) (tPiece w t hi j) = expt w (endc w 0 (t.take j)) ((t.take (tabB t hi j)).drop j) ∧ endc w (endc w 0 (t.take j)) (tPiece w t hi j) = endc w 0 (t.take (tabB t hi j)) ∧ AB (tPiece w t hi j) := by
  have hb1 := tabB_gt (l := t) hj (by lia)
  have hb2 := tabB_le (l := t) hj
  have es := endc_seg w (t := t) (Nat.le_of_lt hb1) (by lia)
  by_cases hc : tCond w t hi j
  · have h32 : cod t j = 32 := by
      apply Decidable.byContradiction; intro hn
      have : tabB t hi j = j + 1 := by unfold tabB; rw [if_neg hn]
      have := hc.1; lia
    have hr := run_bl hh hj h32
    have hle : endc w 0 (t.take j) ≤ endc w 0 (t.take (tabB t hi j)) := by rw [es]; exact (expt_bl w _ _ hr).2
    unfold tPiece
    rw [if_pos hc, colAt_endc hw ht (by lia), colAt_endc hw ht (by lia)]
    have hbl := bt_bl (endc w 0 (t.take j) : Nat) (endc w 0 (t.take (tabB t hi j)) : Nat) w true
    have hbe := bt_endc hw _ _ hle true
    exact ⟨by rw [(expt_bl w _ _ hbl).1, hbe, (expt_bl w _ _ hr).1, ← es], hbe, hbl.ab⟩
  · unfold tPiece
    rw [if_neg hc]
    exact ⟨rfl, es.symm, (ht.take _).drop _⟩
theorem tabO_ab {w : Nat} (hw : 0 < w) {t : List Nat} (ht : AB t) {hi : Nat} (hh : hi ≤ t.length) : ∀ (k j : Nat), AB (tabO w t hi k j)
  | 0, j => fun _ h => nomatch h
  | k + 1, j => by
    unfold tabO
    split
    · rename_i hj; exact (piece_ok hw ht hh hj).2.2.app (tabO_ab hw ht hh k _)
    · exact fun _ h => nomatch h
theorem tab_expt {w : Nat} (hw : 0 < w) {t : List Nat} (ht : AB t) {hi : Nat} (hh : hi ≤ t.length) : ∀ (k j : Nat), hi ≤ j + k → j ≤ hi → expt w (endc w 0 (t.take j)) (tabO w t hi k j ++ t.drop hi) = expt w (endc w 0 (t.take j)) (t.drop j)
  | 0, j, h1, h2 => by
    have : j = hi := by lia
    subst this; rfl
  | k + 1, j, h1, h2 => by
    unfold tabO
    by_cases hj : j < hi
    · rw [if_pos hj]
      have hb1 := tabB_gt (l := t) hj (by lia)
      have hb2 := tabB_le (l := t) hj
      obtain ⟨p1, p2, p3⟩ := piece_ok hw ht hh hj
      rw [List.append_assoc, expt_app w _ _ _ p3, p1, p2, tab_expt hw ht hh k _ (by lia) hb2, endc_seg w (Nat.le_of_lt hb1) (show tabB t hi j ≤ t.length by lia), ← expt_app w _ _ _ ((ht.take _).drop _), seg_drop (Nat.le_of_lt hb1)]
    · rw [if_neg hj]
      have : j = hi := by lia
      subst this; rfl

/-! no run of blanks that a tab could shorten -/
noncomputable def Good (w : Nat) : Nat → Bool → List Nat → Prop
  | _, _, [] => True
  | c, pb, n :: r => (pb = false → n = 32 → (∃ m r', r = m :: r' ∧ bl m = true) → c / w = endc w c (lead (n :: r)) / w) ∧ Good w (endc w c [n]) (bl n) r
theorem Good.weak {w c : Nat} {O : List Nat} (h : Good w c false O) (b : Bool) : Good w c b O := by
  cases O with
  | nil => trivial
  | cons n r => exact ⟨fun _ => h.1 rfl, h.2⟩
theorem good_blank {w : Nat} : ∀ {P rest : List Nat} {c : Nat}, Bl P → Good w (endc w c P) true rest → Good w c true (P ++ rest)
  | [], rest, c, _, h => h
  | n :: P, rest, c, hP, h => by
    refine ⟨fun e => Bool.noConfusion e, ?_⟩
    rw [hP.all n (.head _)]
    exact good_blank (fun m hm => hP m (.tail _ hm)) h
theorem good_at {w : Nat} : ∀ {O : List Nat} {c : Nat} {pb : Bool} (d : Nat), Good w c pb O → d + 1 < O.length → O.getD d 0 = 32 → bl (O.getD (d + 1) 0) = true → (d = 0 ∧ pb = false ∨ 0 < d ∧ bl (O.getD (d - 1) 0) = false) → endc w c (O.take d) / w = endc w (endc w c (O.take d)) (lead (O.drop d)) / w
  | n :: r, c, pb, 0, h, hl, h1, h2, h3 => by
    have hp : pb = false := by rcases h3 with h | h; exact h.2; lia
    cases r with
    | nil => simp at hl
    | cons m r => exact h.1 hp h1 ⟨m, r, rfl, h2⟩
  | n :: r, c, pb, d + 1, h, hl, h1, h2, h3 => by
    have h3 := (h3.resolve_left (fun q => by lia)).2
    have ih := good_at (O := r) d h.2 (by simpa using hl) (by simpa using h1) (by simpa using h2) (by
      cases d with
      | zero => left; exact ⟨rfl, by simpa using h3⟩
      | succ d => right; exact ⟨Nat.succ_pos _, by simpa using h3⟩)
    have e : endc w c ((n :: r).take (d + 1)) = endc w (endc w c [n]) (r.take d) := by rw [List.take_succ_cons, ← endc_app]; rfl
    rw [e, List.drop_succ_cons]; exact ih
  | [], c, pb, d, h, hl, _, _, _ => by simp at hl
theorem tabO_stop {w : Nat} {t : List Nat} {hi j k : Nat} (hh : hi ≤ t.length) (hk : hi ≤ j + k) (hnb : j < hi → isB (cod t j) = false) : tabO w t hi k j = [] ∨ ∃ m r, tabO w t hi k j = m :: r ∧ bl m = false := by
  cases k with
  | zero => exact .inl rfl
  | succ k =>
    unfold tabO
    by_cases hj : j < hi
    · right
      rw [if_pos hj]
      have hlt : j < t.length := by lia
      have h1 := hnb hj
      rw [cod_get hlt, isB_bl] at h1
      have hb : tabB t hi j = j + 1 := by
        unfold tabB
        rw [if_neg]; rw [cod_get hlt]; intro e
        have : t[j] = 32 := by lia
        rw [this] at h1; cases h1
      have hc : ¬ tCond w t hi j := fun q => by have := q.1; lia
      unfold tPiece
      rw [if_neg hc, hb, ← List.take_append_getElem hlt, List.drop_left' (take_len (Nat.le_of_lt hlt))]
      exact ⟨t[j], _, rfl, h1⟩
    · rw [if_neg hj]; exact .inl rfl
theorem lead_stop {P rest : List Nat} (hP : Bl P) (h : rest = [] ∨ ∃ m r, rest = m :: r ∧ bl m = false) : lead (P ++ rest) = P := by
  unfold lead
  rw [takeWhile_all hP.all]
  rcases h with rfl | ⟨m, r, rfl, hm⟩
  · simp
  · rw [List.takeWhile_cons, if_neg (by rw [hm]; decide), List.append_nil]
theorem tab_good {w : Nat} (hw : 0 < w) {t : List Nat} (ht : AB t) {hi : Nat} (hh : hi ≤ t.length) : ∀ (k j : Nat), hi ≤ j + k → j ≤ hi → Good w (endc w 0 (t.take j)) false (tabO w t hi k j)
  | 0, j, _, _ => trivial
  | k + 1, j, h1, h2 => by
    unfold tabO
    by_cases hj : j < hi
    · rw [if_pos hj]
      have hlt : j < t.length := by lia
      have hb1 := tabB_gt (l := t) hj hlt
      have hb2 := tabB_le (l := t) hj
      have ih := tab_good hw ht hh k (tabB t hi j) (by lia) hb2
      obtain ⟨p1, p2, p3⟩ := piece_ok hw ht hh hj
      have hseg : (t.take (tabB t hi j)).drop j = t[j] :: (t.take (tabB t hi j)).drop (j + 1) := by
        have hl2 : j < (t.take (tabB t hi j)).length := by rw [take_len (by lia)]; exact hb1
        rw [List.drop_eq_getElem_cons hl2, List.getElem_take]
      have es := endc_seg w (t := t) (Nat.le_of_lt hb1) (by lia)
      by_cases h32 : t[j] = 32
      · have hc32 : cod t j = 32 := by rw [cod_get hlt, h32]; rfl
        have hr := run_bl hh hj hc32
        have hbe : tabB t hi j = min hi (fwd isB t j) := by unfold tabB; rw [if_pos hc32]
        have hstop := tabO_stop (w := w) (k := k) hh (show hi ≤ tabB t hi j + k by lia) (fun hlt2 => by
          have e : tabB t hi j = fwd isB t j := by lia
          rw [e]
          have hlt3 : fwd isB t j < t.length := by lia
          unfold fwd at hlt3 ⊢
          have hd : ((t.drop j).dropWhile fun n : Nat => isB n) = t.drop (j + ((t.drop j).takeWhile fun n : Nat => isB n).length) := by rw [← dropWhile_eq_drop, List.drop_drop]
          have hne : ((t.drop j).dropWhile fun n : Nat => isB n) ≠ [] := by rw [hd]; intro q; have := congrArg List.length q; rw [List.length_drop] at this; simp at this; lia
          have h9 := List.head_dropWhile_not (p := fun n : Nat => isB n) (l := t.drop j) hne
          rw [cod_get hlt3]
          have h10 : ((t.drop j).dropWhile fun n : Nat => isB n).head hne = t[j + ((t.drop j).takeWhile fun n : Nat => isB n).length] := by
            simp only [hd]; rw [List.head_drop]
          rw [h10] at h9; exact h9)
        by_cases hc : tCond w t hi j
        · have hle : endc w 0 (t.take j) ≤ endc w 0 (t.take (tabB t hi j)) := by rw [es]; exact (expt_bl w _ _ hr).2
          have hc2 := hc.2
          rw [colAt_endc hw ht (by lia), colAt_endc hw ht (by lia)] at hc2
          have hdiv := Nat.div_le_div_right (c := w) hle
          have hq : ((endc w 0 (t.take j) : Nat) : Int) / w = ((endc w 0 (t.take j) / w : Nat) : Int) := rfl
          have hq2 : ((endc w 0 (t.take (tabB t hi j)) : Nat) : Int) / w = ((endc w 0 (t.take (tabB t hi j)) / w : Nat) : Int) := rfl
          rw [hq, hq2] at hc2
          obtain ⟨P', hP'⟩ : ∃ P', tPiece w t hi j = 9 :: P' := by
            unfold tPiece
            rw [if_pos hc, colAt_endc hw ht (by lia), colAt_endc hw ht (by lia)]
            unfold bt tabsN
            have hlt4 : endc w 0 (t.take j) < endc w 0 (t.take (tabB t hi j)) := by
              apply Nat.lt_of_le_of_ne hle; intro q; rw [q] at hc2; exact hc2 rfl
            have hd0 : (true && decide (((endc w 0 (t.take j) : Nat) : Int) < ((endc w 0 (t.take (tabB t hi j)) : Nat) : Int))) = true := by simp; lia
            rw [hd0, if_pos rfl, hq, hq2, if_pos (by lia)]
            obtain ⟨n, hn⟩ : ∃ n, (((endc w 0 (t.take (tabB t hi j)) / w : Nat) : Int) - ((endc w 0 (t.take j) / w : Nat) : Int)).toNat = n + 1 := ⟨_, (Nat.succ_pred (by lia)).symm⟩
            rw [hn, List.replicate_succ]; exact ⟨_, rfl⟩
          have hPbl : Bl (tPiece w t hi j) := by
            unfold tPiece; rw [if_pos hc]; exact bt_bl _ _ _ _
          rw [hP'] at p2 hPbl ⊢
          refine ⟨fun _ e => absurd e (by decide), ?_⟩
          refine good_blank (fun m hm => hPbl m (.tail _ hm)) ?_
          have : endc w (endc w (endc w 0 (t.take j)) [9]) P' = endc w 0 (t.take (tabB t hi j)) := by rw [← p2, ← endc_app]; rfl
          rw [this]; exact ih.weak true
        · have hp : tPiece w t hi j = (t.take (tabB t hi j)).drop j := by unfold tPiece; rw [if_neg hc]
          rw [hp] at p2 ⊢
          rw [hseg, h32] at p2 ⊢
          rw [hseg, h32] at hr es
          refine ⟨fun _ _ hm => ?_, ?_⟩
          · have hlead := lead_stop hr hstop
            rw [List.cons_append] at hlead
            change ∃ m r', (t.take (tabB t hi j)).drop (j + 1) ++ tabO w t hi k (tabB t hi j) = m :: r' ∧ bl m = true at hm
            change endc w 0 (t.take j) / w = endc w (endc w 0 (t.take j)) (lead (32 :: ((t.take (tabB t hi j)).drop (j + 1) ++ tabO w t hi k (tabB t hi j)))) / w
            rw [hlead, p2]
            by_cases hj1 : j + 1 < tabB t hi j
            · have : colAt w t j / w = colAt w t (tabB t hi j) / w := Classical.byContradiction fun q => hc ⟨hj1, q⟩
              rw [colAt_endc hw ht (by lia), colAt_endc hw ht (by lia)] at this
              exact Int.ofNat.inj this
            · have hb : tabB t hi j = j + 1 := by lia
              rw [hb] at hm hstop
              have hnil : (t.take (j + 1)).drop (j + 1) = [] := List.drop_of_length_le (by rw [List.length_take]; lia)
              rw [hnil, List.nil_append] at hm
              obtain ⟨m, r, e, hm⟩ := hm
              rcases hstop with hs | ⟨m', r', hs, hm'⟩
              · rw [hs] at e; cases e
              · rw [hs] at e; cases e; rw [hm] at hm'; cases hm'
          · refine good_blank (fun m hm => hr m (.tail _ hm)) ?_
            have : endc w (endc w (endc w 0 (t.take j)) [32]) ((t.take (tabB t hi j)).drop (j + 1)) = endc w 0 (t.take (tabB t hi j)) := by rw [← p2, ← endc_app]; rfl
            rw [this]; exact ih.weak true
      · have hb : tabB t hi j = j + 1 := by
          unfold tabB; rw [if_neg]; rw [cod_get hlt]; intro e; exact h32 (by lia)
        have hc : ¬ tCond w t hi j := fun q => by have := q.1; lia
        have hp : tPiece w t hi j = [t[j]] := by
          unfold tPiece
          rw [if_neg hc, hb, ← List.take_append_getElem hlt, List.drop_left' (take_len (Nat.le_of_lt hlt))]
        rw [hp] at p2 ⊢
        refine ⟨fun _ e => absurd e h32, ?_⟩
        show Good w (endc w (endc w 0 (t.take j)) [t[j]]) (bl t[j]) (tabO w t hi k (tabB t hi j))
        rw [p2]; exact ih.weak _
    · rw [if_neg hj]; trivial
end Mine

end
section
namespace Mine
open PySem

theorem colAt_nn {w : Nat} (hw : 0 < w ∧ w ≤ 8) {t : List Nat} (hl : t.length ≤ 17) (i : Nat) : 0 ≤ colAt w t i ∧ colAt w t i ≤ 204 := by
  have h := colN_le (w := (w : Int)) (by lia) ((t.take i).drop (bwd notN t i)) 0
  have h1 : ((t.take i).drop (bwd notN t i)).length ≤ 17 := by rw [List.length_drop, List.length_take]; lia
  unfold colAt
  generalize ((t.take i).drop (bwd notN t i)).length = n at *
  have h2 : (n : Int) * (w + 4) ≤ 17 * 12 := Int.mul_le_mul (by lia) (by lia) (by lia) (by lia)
  lia
theorem plainC {t : List Nat} {w : Nat} {lo hi : Nat} (ht : AB t) (hl : t.length ≤ 17) (hw : 0 < w ∧ w ≤ 8) (hlh : lo ≤ hi) (hhi : hi ≤ t.length) : PlainC t w lo hi := by
  refine ⟨?_, untab_ok hw.1 ht hlh hhi, ?_⟩
  · have key : ∀ k, lo + k ≤ hi → ∀ e ∈ untabE w t lo k, EdOk e := by
      intro k
      induction k with
      | zero => intro _ e he; cases he
      | succ k ih =>
        intro hk e he
        unfold untabE at he
        rcases List.mem_append.mp he with he | he
        · exact ih (by lia) e he
        · split at he
          · have he := List.mem_singleton.mp he
            subst he
            have hm := mod_bd (a := colAt w t (lo + k)) (w := (w : Int)) (by lia)
            refine ⟨Nat.le_succ _, by show lo + k + 1 ≤ _; lia, ?_, fun n hn => ?_⟩
            · show (List.replicate _ 32).length ≤ _
              rw [List.length_replicate]; lia
            · have := List.eq_of_mem_replicate hn; lia
          · cases he
    exact key (hi - lo) (by lia)
  · have key : ∀ k, (plU w t lo hi k).length ≤ k * 8 := by
      intro k
      induction k with
      | zero => exact Nat.zero_le _
      | succ k ih =>
        unfold plU
        rw [List.length_append]
        have hm := mod_bd (a := colOf w (hdL t k)) (w := (w : Int)) (by lia)
        split
        · rw [List.length_replicate]; lia
        · simp; lia
    intro k hk
    have := key k; lia
theorem tabE_mem {w : Nat} {t : List Nat} {hi : Nat} (hh : hi ≤ t.length) : ∀ {k j : Nat} {e : Edit}, e ∈ tabE w t hi k j → ∃ i, i < hi ∧ e = (i, tabB t hi i, bt (colAt w t i) (colAt w t (tabB t hi i)) w true)
  | 0, _, _, h => nomatch h
  | k + 1, j, e, h => by
    unfold tabE at h
    split at h
    · rename_i hj
      rcases List.mem_append.mp h with h | h
      · split at h
        · exact ⟨j, hj, by simpa using h⟩
        · cases h
      · exact tabE_mem hh h
    · cases h
theorem plainD {t : List Nat} {w : Nat} {lo hi : Nat} (ht : AB t) (hl : t.length ≤ 17) (hw : 0 < w ∧ w ≤ 8) (hlh : lo ≤ hi) (hhi : hi ≤ t.length) : ∃ n, PlainD t w lo hi n := by
  obtain ⟨h1, h2⟩ := tab_asm (w := w) hhi t.length lo (by lia) hlh
  have hnew := done_asm h1
  rw [h2] at hnew
  have hmem : ∀ e ∈ tabE w t hi t.length lo, e.1 ≤ e.2.1 ∧ e.2.2.length ≤ 210 ∧ e.2.1 ≤ hi ∧ ∀ n ∈ e.2.2, n < 1000 := fun e he => by
    obtain ⟨i, hi', rfl⟩ := tabE_mem hhi he
    have hb1 := tabB_gt (l := t) hi' (by lia)
    have hb2 := tabB_le (l := t) hi'
    have c1 := colAt_nn hw hl i
    have c2 := colAt_nn hw hl (tabB t hi i)
    exact ⟨Nat.le_of_lt hb1, bt_len hw.1 c1.1 (by lia) true, hb2, bt_low⟩
  have hlen : (done t (tabE w t hi t.length lo).reverse).length ≤ 10000 := by
    have h3 := done_length t 210 (tabE w t hi t.length lo).reverse fun e he => ⟨(hmem e (List.mem_reverse.mp he)).1, (hmem e (List.mem_reverse.mp he)).2.1⟩
    have h4 := tabE_length w t hi t.length lo
    rw [List.length_reverse] at h3
    have h5 : (tabE w t hi t.length lo).length * 210 ≤ 17 * 210 := Nat.mul_le_mul_right _ (by lia)
    lia
  have hO := tabO_ab hw.1 ht hhi t.length lo
  have hgood := tab_good hw.1 ht hhi t.length lo (by lia) hlh
  have hexp := tab_expt hw.1 ht hhi t.length lo (by lia) hlh
  generalize hOe : tabO w t hi t.length lo = O at *
  have htl : (t.take lo).length = lo := take_len (by lia)
  have hdl : (t.drop hi).length = t.length - hi := List.length_drop
  have hab : AB (t.take lo ++ (O ++ t.drop hi)) := (ht.take lo).app (hO.app (ht.drop hi))
  have hnl : (t.take lo ++ (O ++ t.drop hi)).length = lo + O.length + (t.length - hi) := by rw [List.length_append, List.length_append, htl, hdl]; lia
  have hm : (t.take lo ++ (O ++ t.drop hi)).length - (t.length - hi) = lo + O.length := by lia
  have hloO : (t.take lo ++ O).length = lo + O.length := by rw [List.length_append, htl]
  refine ⟨t.take lo ++ (O ++ t.drop hi), fun e he => ?_, hnew, by rw [← hnew]; exact hlen, ⟨hab.low, ht.low⟩, fun l h => low_expt w l 0 h, ?_, by lia, take_app htl, ?_, ?_⟩
  · obtain ⟨a1, a2, a3, a4⟩ := hmem e he
    exact ⟨a1, by lia, by lia, a4⟩
  · rw [spl_map_expt w hab, spl_map_expt w ht]
    congr 1
    rw [expt_app w _ _ _ (ht.take lo), hexp, ← expt_app w _ _ _ (ht.take lo), List.take_append_drop]
  · rw [hm, ← List.append_assoc]; exact drop_app hloO
  · intro s hs1 hs2 h32 hb hpb
    rw [hm] at hs2 ⊢
    obtain ⟨d, rfl⟩ : ∃ d, s = lo + d := ⟨s - lo, by lia⟩
    have hd : d + 1 < O.length := by lia
    have gd : ∀ i, i < O.length → (t.take lo ++ (O ++ t.drop hi)).getD (lo + i) 0 = O.getD i 0 := fun i hi' => by
      simp only [List.getD]
      rw [List.getElem?_append_right (by lia), htl, Nat.add_sub_cancel_left, List.getElem?_append_left hi']
    have e1 : (t.take lo ++ (O ++ t.drop hi)).take (lo + d) = t.take lo ++ O.take d := by
      rw [List.take_append, List.take_of_length_le (by lia), htl, Nat.add_sub_cancel_left, List.take_append_of_le_length (by lia)]
    have e2 : ((t.take lo ++ (O ++ t.drop hi)).take (lo + O.length)).drop (lo + d) = O.drop d := by
      rw [← List.append_assoc, take_app hloO, List.drop_append, List.drop_of_length_le (by lia), htl, Nat.add_sub_cancel_left, List.nil_append]
    have hls : lo + d ≤ (t.take lo ++ (O ++ t.drop hi)).length := by lia
    have hg := good_at (c := endc w 0 (t.take lo)) (pb := false) d hgood hd (by rw [← gd d (by lia)]; exact h32) (by rw [← gd (d + 1) hd]; exact hb) (by
      rcases hpb with h | h
      · left; exact ⟨by lia, rfl⟩
      · by_cases h0 : d = 0
        · left; exact ⟨h0, rfl⟩
        · right; refine ⟨by lia, ?_⟩
          rw [← gd (d - 1) (by lia), show lo + (d - 1) = lo + d - 1 by lia]; exact h)
    have hlead : Bl (lead (O.drop d)) := fun n hn => bl_iff.mp (tw_mem hn)
    have hfree : 10 ∉ hdL (t.take lo ++ (O ++ t.drop hi)) (lo + d) ++ lead (O.drop d) := fun hm => by
      rcases List.mem_append.mp hm with hm | hm
      · exact hdL_free hls hm
      · exact hlead.free hm
    have eh := endc_take w hls
    rw [e1, endc_app] at eh
    rw [e2, colOf_endc w ((hdL_ab hab _).app hlead.ab) hfree, endc_app, colOf_endc w (hdL_ab hab _) (hdL_free hls), ← eh]
    exact congrArg Int.ofNat hg
theorem plainE0 {t : List Nat} {w : Nat} {tabs : Bool} (ht : AB t) (hl : t.length ≤ 17) (hw : 0 < w ∧ w ≤ 8) : (∀ i, i ≤ t.length → EdOk (stopE w tabs t i)) ∧ (∀ i, i ≤ t.length → EdOk (splitE w tabs t i)) ∧ (∀ c, 0 ≤ c → c ≤ 304000 → (bt 0 c w tabs).length ≤ 400000) := by
  refine ⟨fun i hi => ⟨bwd_le isB t i, by show i ≤ _; lia, ?_, bt_low⟩, fun i hi => ⟨Nat.le_refl _, by have := fwd_le isB t hi; show fwd isB t i ≤ _; lia, ?_, fun n hn => ?_⟩, fun c h0 h1 => bt_len hw.1 (Int.le_refl _) (by lia) tabs⟩
  · have c1 := colAt_nn hw hl i
    have c2 := colAt_nn hw hl (bwd isB t i)
    refine bt_len hw.1 c2.1 ?_ tabs
    have h2 := Int.mul_ediv_add_emod (colAt w t i) w
    have h3 := mod_bd (a := colAt w t i) (w := (w : Int)) (by lia)
    rw [Int.add_mul, Int.one_mul, Int.mul_comm]
    lia
  · have c1 := colAt_nn hw hl (fwd isB t i)
    have := bt_len hw.1 (c := 0) (Int.le_refl _) (d := colAt w t (fwd isB t i)) (M := 204) (by lia) tabs
    show (10 :: bt 0 (colAt w t (fwd isB t i)) w tabs).length ≤ 1000
    rw [List.length_cons]; lia
  · have hn : n ∈ 10 :: bt 0 (colAt w t (fwd isB t i)) w tabs := hn
    rcases List.mem_cons.mp hn with rfl | hn
    · lia
    · exact bt_low n hn
end Mine

end
section
namespace Mine
open PySem

/-! the lines above -/
noncomputable def cnt10 (l : List Nat) : Nat := (l.filter (· == 10)).length
theorem cnt10_app (a b : List Nat) : cnt10 (a ++ b) = cnt10 a + cnt10 b := by unfold cnt10; rw [List.filter_append, List.length_append]
theorem cnt10_free {l : List Nat} (h : 10 ∉ l) : cnt10 l = 0 := by
  unfold cnt10
  rw [List.length_eq_zero_iff, List.filter_eq_nil_iff]
  intro n hn e
  have : n = 10 := by simpa using e
  exact h (this ▸ hn)
theorem spl_cnt : ∀ l : List Nat, (spl l).length = cnt10 l + 1
  | [] => rfl
  | n :: r => by
    have ih := spl_cnt r
    have e : cnt10 (n :: r) = (if n = 10 then 1 else 0) + cnt10 r := by
      unfold cnt10
      rw [List.filter_cons]
      by_cases h : n = 10
      · rw [if_pos h, if_pos (by simpa using h), List.length_cons]; lia
      · rw [if_neg h, if_neg (by simpa using h)]; lia
    rw [e]
    unfold spl
    split
    · rw [List.length_cons, ih]; lia
    · revert ih
      cases spl r with
      | nil => intro ih; simp at ih
      | cons y ys => intro ih; rw [List.length_cons] at ih ⊢; lia
noncomputable def glue (P : List (List Nat)) : List Nat := (P.map fun x => x ++ [10]).flatten
theorem glue_unl : ∀ {L : List (List Nat)}, L ≠ [] → glue L = unl L ++ [10]
  | [], h => absurd rfl h
  | [x], _ => by simp [glue, unl]
  | x :: y :: r, _ => by
    have ih := glue_unl (L := y :: r) (by simp)
    unfold glue at ih ⊢
    rw [List.map_cons, List.flatten_cons, ih, unl_cons (x := x) (r := y :: r) (by simp), List.append_assoc, List.append_assoc]; rfl
theorem above_eq {t p r : List Nat} (h : t = p ++ r) (hp : Ends p) : p = glue ((spl t).take (cnt10 p)) := by
  rcases hp with rfl | ⟨p', rfl⟩
  · rfl
  · have e : t = p' ++ 10 :: r := by rw [h]; simp
    have hc : cnt10 (p' ++ [10]) = (spl p').length := by rw [cnt10_app, spl_cnt]; rfl
    rw [hc, e, spl_mid, List.take_left, glue_unl (spl_ne p'), unl_spl]
theorem glue_snoc (P : List (List Nat)) (x : List Nat) : glue (P ++ [x]) = glue P ++ (x ++ [10]) := by unfold glue; simp
theorem eq_snoc (P : List (List Nat)) : P = [] ∨ ∃ P' x, P = P' ++ [x] := by
  rcases List.eq_nil_or_concat P with h | ⟨P', x, h⟩
  · exact .inl h
  · exact .inr ⟨P', x, by rw [h, List.concat_eq_append]⟩
theorem glue_ends (P : List (List Nat)) : Ends (glue P) := by
  rcases eq_snoc P with rfl | ⟨P', x, rfl⟩
  · exact .inl rfl
  · rw [glue_snoc]; exact .inr ⟨glue P' ++ x, by simp⟩
theorem lwt_ok {t : List Nat} : ∀ (n : Nat) (P : List (List Nat)) (k : Nat) (r : List Nat), P.length = n → n ≤ k → t = glue P ++ r → (∀ x ∈ P, 10 ∉ x) →
    match (P.filter fun x => !decide (x = [])).getLast? with
    | none => lwt t k (glue P).length = none
    | some x => ∃ p q, Line t p x q ∧ lwt t k (glue P).length = some p.length
  | 0, P, k, r, hn, hk, ht, hf => by
    have : P = [] := List.eq_nil_of_length_eq_zero hn
    subst this
    show lwt t k 0 = none
    cases k <;> rfl
  | n + 1, P, k, r, hn, hk, ht, hf => by
    rcases eq_snoc P with rfl | ⟨P', x, rfl⟩
    · simp at hn
    · obtain ⟨k', rfl⟩ : ∃ k', k = k' + 1 := ⟨k - 1, by lia⟩
      have hl : Line t (glue P') x (10 :: r) := ⟨by rw [ht, glue_snoc]; simp, glue_ends P', hf x (by simp), .inr ⟨r, rfl⟩⟩
      have hlen : (glue (P' ++ [x])).length = ((glue P').length + x.length) + 1 := by rw [glue_snoc]; simp; lia
      have hb := hl.bwd (j := x.length) (Nat.le_refl _)
      rw [hlen]
      by_cases hx : x = []
      · have e1 : ((P' ++ [x]).filter fun x => !decide (x = [])) = P'.filter fun x => !decide (x = []) := by rw [List.filter_append]; simp [hx]
        have ih := lwt_ok n P' k' (x ++ 10 :: r) (by simpa using hn) (by lia) hl.eq (fun y hy => hf y (by simp [hy]))
        have e2 : lwt t (k' + 1) ((glue P').length + x.length + 1) = lwt t k' (glue P').length := by
          show (if bwd notN t ((glue P').length + x.length) < (glue P').length + x.length then _ else lwt t k' (bwd notN t ((glue P').length + x.length))) = _
          rw [hb, if_neg (by rw [hx]; simp)]
        rw [e1, e2]; exact ih
      · have e1 : ((P' ++ [x]).filter fun x => !decide (x = [])) = (P'.filter fun x => !decide (x = [])) ++ [x] := by rw [List.filter_append]; simp [hx]
        have e2 : lwt t (k' + 1) ((glue P').length + x.length + 1) = some (glue P').length := by
          show (if bwd notN t ((glue P').length + x.length) < (glue P').length + x.length then some (bwd notN t ((glue P').length + x.length)) else _) = _
          have := List.length_pos_iff.mpr hx
          rw [hb, if_pos (by lia)]
        rw [e1, e2, List.getLast?_append]
        exact ⟨_, _, hl, rfl⟩

/-! along one line -/
section
variable {t p x q : List Nat}
theorem Line.ab (h : Line t p x q) (ht : AB t) : AB x := fun n hn => ht n (by rw [h.eq]; simp [hn])
theorem Line.seg (h : Line t p x q) {j : Nat} (hj : j ≤ x.length) : (t.take (p.length + j)).drop p.length = x.take j := by
  rw [h.eq, List.take_append, List.take_of_length_le (by lia), Nat.add_sub_cancel_left, List.drop_left' rfl, List.take_append_of_le_length hj]
theorem colN_of {w : Nat} (hw : 0 < w) {l : List Nat} (h : AB l) (h10 : 10 ∉ l) : colN w l 0 = colOf w l := by
  have := colN_endc hw l 0 h h10
  rw [Int.natCast_zero] at this
  rw [this, colOf_endc w h h10]
theorem Line.take_free (h : Line t p x q) (j : Nat) : 10 ∉ x.take j := fun hm => h.free (List.mem_of_mem_take hm)
theorem Line.col (h : Line t p x q) (ht : AB t) {w : Nat} (hw : 0 < w) {j : Nat} (hj : j ≤ x.length) : colAt w t (p.length + j) = colOf w (x.take j) := by
  unfold colAt
  rw [h.bwd hj, h.seg hj]
  exact colN_of hw ((h.ab ht).take j) (h.take_free j)
theorem pla_whl {w : Nat} (hw : 0 < w) {x : List Nat} (hx : AB x) (h10 : 10 ∉ x) (col : Int) : ∀ (d j : Nat), j + d = x.length →
    j + (pla w col (x.drop j) (colOf w (x.take j))).1 = whl (fun j => decide (colOf w (x.take j) < col)) d j ∧ (pla w col (x.drop j) (colOf w (x.take j))).2 = colOf w (x.take (j + (pla w col (x.drop j) (colOf w (x.take j))).1))
  | 0, j, h => by
    have : j = x.length := by lia
    subst this
    rw [List.drop_length]; exact ⟨rfl, rfl⟩
  | d + 1, j, h => by
    have hlt : j < x.length := by lia
    rw [List.drop_eq_getElem_cons hlt]
    unfold pla whl
    by_cases hc : colOf w (x.take j) < col
    · have hf : ∀ k, 10 ∉ x.take k := fun k hm => h10 (List.mem_of_mem_take hm)
      have e : colf w (colOf w (x.take j)) x[j] = colOf w (x.take (j + 1)) := by
        rw [← colN_of hw (hx.take j) (hf j), ← colN_of hw (hx.take (j + 1)) (hf (j + 1)), ← List.take_append_getElem hlt, colN_app]; rfl
      rw [if_pos hc, if_pos (decide_eq_true hc), e]
      obtain ⟨i1, i2⟩ := pla_whl hw hx h10 col d (j + 1) (by lia)
      refine ⟨?_, ?_⟩
      · show j + ((pla w col (x.drop (j + 1)) (colOf w (x.take (j + 1)))).1 + 1) = _
        rw [← i1]; lia
      · show (pla w col (x.drop (j + 1)) (colOf w (x.take (j + 1)))).2 = colOf w (x.take (j + ((pla w col (x.drop (j + 1)) (colOf w (x.take (j + 1)))).1 + 1)))
        rw [i2]; congr 2; lia
    · rw [if_neg hc, if_neg (by simpa using hc)]; exact ⟨rfl, rfl⟩
theorem Line.fwd_whl (h : Line t p x q) (qq : Int → Bool) : ∀ (d j : Nat), j + d = x.length → Mine.fwd qq (t.take (p.length + x.length)) (p.length + j) = p.length + whl (fun j => qq (x.getD j 0 : Nat)) d j
  | 0, j, e => by
    have : j = x.length := by lia
    subst this
    rw [fwd_stop _ fun hlt => by rw [take_len h.len] at hlt; lia]; rfl
  | d + 1, j, e => by
    have hlt : j < x.length := by lia
    have hl := h.len
    have hlt2 : p.length + j < (t.take (p.length + x.length)).length := by rw [take_len hl]; lia
    have hc : cod (t.take (p.length + x.length)) (p.length + j) = (x.getD j 0 : Nat) := by
      rw [cod_get hlt2, List.getElem_take]
      have := h.cod_x hlt
      rw [cod_get (by lia)] at this
      rw [this]; simp [hlt]
    unfold whl
    by_cases hq : qq (x.getD j 0 : Nat) = true
    · rw [if_pos hq, fwd_step _ hlt2 (by rw [hc]; exact hq), Nat.add_assoc, h.fwd_whl qq d (j + 1) (by lia)]
    · rw [if_neg hq, fwd_stop _ fun _ => by rw [hc]; simpa using hq]
end
theorem rel_ok {t : List Nat} (ht : AB t) {w : Nat} (hw : 0 < w) {i : Nat} (hi : i ≤ t.length) : relV w t i = lrel (spl t) ((t.take i).filter (· == 10)).length (colOf w (hdL t i)) w := by
  have hb := bwd_le notN t i
  have hbl : bwd notN t i ≤ t.length := Nat.le_trans hb hi
  have hcnt : ((t.take i).filter (· == 10)).length = cnt10 (t.take (bwd notN t i)) := by
    show cnt10 (t.take i) = _
    rw [hdL_dec hi, cnt10_app, cnt10_free (hdL_free hi), Nat.add_zero]
  have hab := above_eq (List.take_append_drop (bwd notN t i) t).symm (ends_bwd hi)
  have hglen : (glue ((spl t).take (cnt10 (t.take (bwd notN t i))))).length = bwd notN t i := by rw [← hab, take_len hbl]
  have hl := lwt_ok (t := t) ((spl t).take (cnt10 (t.take (bwd notN t i)))).length _ t.length (t.drop (bwd notN t i)) rfl (by
    rw [List.length_take]
    have h1 : cnt10 (t.take (bwd notN t i)) ≤ (t.take (bwd notN t i)).length := List.length_filter_le _ _
    rw [List.length_take] at h1; lia) (by rw [← hab, List.take_append_drop]) (fun x hx => spl_free t x (List.mem_of_mem_take hx))
  rw [hglen] at hl
  have hcol : colAt w t i = colOf w (hdL t i) := by rw [colAt_endc hw ht hi, colOf_last ht hi]
  have hc0 : 0 ≤ colOf w (hdL t i) := by unfold colOf; lia
  rw [hcnt]
  unfold relV lrel
  revert hl
  cases hA : (((spl t).take (cnt10 (t.take (bwd notN t i)))).filter fun x => !decide (x = [])).getLast? with
  | none => intro hl; dsimp only at hl ⊢; rw [hl]
  | some x =>
    intro hl
    dsimp only at hl ⊢
    obtain ⟨p, q, hL, hlw⟩ := hl
    rw [hlw]
    dsimp only
    have hx := hL.ab ht
    have hbw := hL.bwd (j := 0) (Nat.zero_le _)
    rw [Nat.add_zero] at hbw
    have hfw := hL.fwd (j := 0) (Nat.zero_le _)
    rw [Nat.add_zero] at hfw
    have hrel : relAt w t i p.length = pla w (colOf w (hdL t i)) x 0 := by
      unfold relAt
      rw [hbw, hfw, hL.seg (Nat.le_refl _), List.take_length, hcol]
    obtain ⟨a1, a2⟩ := pla_whl hw hx hL.free (colOf w (hdL t i)) x.length 0 (by lia)
    have z0 : colOf w (x.take 0) = 0 := rfl
    rw [List.drop_zero, z0, Nat.zero_add] at a1 a2
    have e1 : (pla w (colOf w (hdL t i)) x 0).1 = ls1 x (colOf w (hdL t i)) w := a1
    rw [e1] at a2
    rw [hrel, a2, hcol]
    have hs1 := whl_le (p := fun j => decide (colOf w (x.take j) < colOf w (hdL t i))) (x.length - 0) 0
    have hs1 : ls1 x (colOf w (hdL t i)) w ≤ x.length := by unfold ls1; lia
    by_cases hlt : colOf w (x.take (ls1 x (colOf w (hdL t i)) w)) < colOf w (hdL t i)
    · rw [if_pos hlt, if_pos hlt]
    · rw [if_neg hlt, if_neg hlt]
      have hst : relSt w t i p.length = p.length + ls2 x (colOf w (hdL t i)) w := by
        unfold relSt ls2
        rw [hrel, hbw, e1, a2, hcol]
        by_cases hg : colOf w (hdL t i) < colOf w (x.take (ls1 x (colOf w (hdL t i)) w))
        · rw [if_pos hg, if_pos hg]
          have : 0 < ls1 x (colOf w (hdL t i)) w := by
            apply Nat.pos_of_ne_zero; intro h0
            rw [h0, z0] at hg; lia
          lia
        · rw [if_neg hg, if_neg hg]
      have hs2 : ls2 x (colOf w (hdL t i)) w ≤ x.length := by unfold ls2; split <;> lia
      have hq : ∀ j, eqB false (x.getD j 0 : Nat) = !blAt x j := fun j => by unfold eqB blAt; rw [isB_bl, bl_in]; cases bl (x.getD j 0) <;> rfl
      have hq2 : ∀ j, eqB true (x.getD j 0 : Nat) = blAt x j := fun j => by unfold eqB blAt; rw [isB_bl, bl_in]; cases bl (x.getD j 0) <;> rfl
      have hsk : relSk w t i p.length = p.length + ls3 x (colOf w (hdL t i)) w := by
        unfold relSk
        rw [hst, hfw]
        have hf := hL.fwd_whl (eqB false) (x.length - ls2 x (colOf w (hdL t i)) w) (ls2 x (colOf w (hdL t i)) w) (by lia)
        have hfun : (fun j => eqB false (x.getD j 0 : Nat)) = fun j => !blAt x j := funext hq
        rw [hfun] at hf
        by_cases hbk : isB (cod t (p.length + ls2 x (colOf w (hdL t i)) w)) = true
        · rw [if_pos hbk]
          have hlt2 : ls2 x (colOf w (hdL t i)) w < x.length := by
            apply Nat.lt_of_le_of_ne hs2
            intro e
            rw [e] at hbk
            rcases hL.cod_end with h1 | h1
            · unfold notN at h1
              have : cod t (p.length + x.length) = 10 := by simpa using h1
              rw [this] at hbk; cases hbk
            · rw [h1, cod_ge (Nat.le_refl _)] at hbk; cases hbk
          unfold ls3
          rw [whl_stop fun _ => ?_]
          rw [hL.cod_x hlt2, isB_bl] at hbk
          have : blAt x (ls2 x (colOf w (hdL t i)) w) = true := by
            unfold blAt; rw [bl_in]; simpa [hlt2] using hbk
          rw [this]; rfl
        · rw [if_neg hbk, hf]; rfl
      have hs3 := whl_le (p := fun j => !blAt x j) (x.length - ls2 x (colOf w (hdL t i)) w) (ls2 x (colOf w (hdL t i)) w)
      have hs3 : ls3 x (colOf w (hdL t i)) w ≤ x.length := by unfold ls3; lia
      have hed : relEd w t i p.length = p.length + ls4 x (colOf w (hdL t i)) w := by
        unfold relEd
        rw [hsk, hfw]
        have hf := hL.fwd_whl (eqB true) (x.length - ls3 x (colOf w (hdL t i)) w) (ls3 x (colOf w (hdL t i)) w) (by lia)
        have hfun : (fun j => eqB true (x.getD j 0 : Nat)) = blAt x := funext hq2
        rw [hfun] at hf
        exact hf
      have hs4 := whl_le (p := blAt x) (x.length - ls3 x (colOf w (hdL t i)) w) (ls3 x (colOf w (hdL t i)) w)
      have hs4 : ls4 x (colOf w (hdL t i)) w ≤ x.length := by unfold ls4; lia
      rw [hed, hfw, hL.col ht hw hs4]
      by_cases he : ls4 x (colOf w (hdL t i)) w = x.length
      · rw [if_pos he, if_pos (by rw [he])]
      · rw [if_neg he, if_neg (by lia)]
end Mine

end
section
open PySem PySem.W PyProof.Rows
namespace Mine
open PySem PySem.Calls PySem.W PyProof.Rows PySem.Builtin.Str
variable {c : Cx}
set_option maxRecDepth 100000
set_option maxHeartbeats 1200000
/-- all that the plain law says of one turn -/
noncomputable def PlainAll : Prop := ∀ (t : List Nat) (w : Nat) (tabs : Bool) (lby : Int) (lo hi : Nat), AB t → t.length ≤ 17 → (0 < w ∧ w ≤ 8) → (-6 ≤ lby ∧ lby ≤ 6) → lo ≤ hi → hi ≤ t.length →
  PlainB t w tabs lby lo hi ∧ PlainC t w lo hi ∧ (∃ n, PlainD t w lo hi n) ∧ PlainE t w tabs
theorem ind_bd (w' : Int) (hw : 0 < w') (hw2 : w' ≤ 8) (t : List Nat) (ht : t.length ≤ 100) (i : Nat) : indAt w' t i ≤ 300000 ∧ 0 ≤ indAt w' t i := by
  have h := colN_le hw ((t.drop (bwd notN t i)).takeWhile fun n : Nat => isB n) 0
  have h1 : ((t.drop (bwd notN t i)).takeWhile fun n : Nat => isB n).length ≤ t.length := Nat.le_trans (List.takeWhile_prefix _).length_le (by rw [List.length_drop]; lia)
  unfold indAt
  generalize ((t.drop (bwd notN t i)).takeWhile fun n : Nat => isB n).length = n at *
  have h2 : (n : Int) * (w' + 4) ≤ 100 * 12 := Int.mul_le_mul (by lia) (by lia) (by lia) (by lia)
  lia
theorem Fsub.len {vs vs' : List (Option PV)} (h : Fsub vs vs') : vs.length = vs'.length := by
  induction h with
  | nil => rfl
  | drop _ ih => rw [List.length_cons, List.length_cons, ih]
  | keep _ ih => rw [List.length_cons, List.length_cons, ih]
  | eq _ _ ih => rw [List.length_cons, List.length_cons, ih]
theorem set_any {x : Str} {p : PV} : ∀ {nk : List Str} (vs : List (Option PV)), vs.length = nk.length → x ∈ nk → ∃ vs1, SetAt nk vs x p vs1
  | y :: nk, o :: vs, hl, hm => by
    by_cases h : x = y
    · subst h; exact ⟨_, .head⟩
    · obtain ⟨vs1, g⟩ := set_any vs (by simpa using hl) ((List.mem_cons.mp hm).resolve_left h)
      exact ⟨_, .tail g⟩
  | [], _, _, hm => nomatch hm
  | _ :: _, [], hl, _ => by simp at hl
/-- a name that is not looked at, set anew -/
theorem fsub_set {x : Str} {p : PV} {nk : List Str} {vs vs1 vs' : List (Option PV)} (h : Fsub vs vs') (g : SetAt nk vs x p vs1) : (∀ q, ¬ GetAt nk vs' x q) → nk.Nodup → Fsub vs1 vs' := by
  intro hn nd
  induction g generalizing vs' with
  | @head x nk p o vs =>
    cases h with
    | drop r => exact .drop r
    | keep r => cases o with
      | none => exact .drop r
      | some q => exact (hn q .head).elim
    | eq e r => exact (hn _ .head).elim
  | tail g ih =>
    cases h with
    | drop r => exact .drop (ih r (fun q gq => hn q (.tail gq)) (List.nodup_cons.mp nd).2)
    | keep r => exact .keep (ih r (fun q gq => hn q (.tail gq)) (List.nodup_cons.mp nd).2)
    | eq e r => exact .eq e (ih r (fun q gq => hn q (.tail gq)) (List.nodup_cons.mp nd).2)
theorem get_none {x : Str} {q : PV} : ∀ {nk : List Str} {n : Nat}, ¬ GetAt nk (List.replicate n none) x q
  | [], _, g => by cases g
  | _ :: _, 0, g => by cases g
  | _ :: nk, n + 1, g => by
    rw [List.replicate_succ] at g
    cases g with
    | tail g => exact get_none g
theorem get_fr0 {x : Str} {q : PV} {d : Addr} (g : GetAt lnk (fr0 d) x q) : x = ks "_law_deck" := by
  cases g with
  | head => rfl
  | tail g => exact (get_none g).elim
theorem law_walk (K : KOk c) (hP : PlainAll) {L1 L2 L3 : Addr} (X : LX c L1 L2 L3) (hX : LawX X) {a : Addr} {ns : List Int} (hRaw : RawL a ns X.F0) (hns : ns.length ≤ 63) :
    Ex X (List.replicate 31 none ++ [some (.raw (.ref a))]) ((L1, .var none) :: (L2, .var none) :: (L3, .var none) :: [(304, .st (· = tabObj #[]))]) (fbody 47) (fun _ _ => False) (fun p cs => p = .bool true ∧ ∃ arr, (304, CV.st (· = tabObj arr)) ∈ cs) := by
  refine ex_assign_new (vs' := fun d => some (.raw (.ref d)) :: (List.replicate 30 none ++ [some (.raw (.ref a))])) (ps := [.raw (.ref a)]) (ev_globalR (by repeat first | exact List.Mem.head _ | apply List.Mem.tail) K.g_law_deck_of) K.d_law_deck_of.isFn (el_cons (ev_local (by repeat first | exact GetAt.head | apply GetAt.tail)) el_nil) (K.f_deck_of a ns (by lia)) (by decide) (fun F le => ?_) (fun d => by (repeat first | exact SetAt.head | apply SetAt.tail)) (fun d => ?_)
  · obtain ⟨o, us, n, e1, e2, e3, e4⟩ := hRaw
    exact ⟨o, us, n, le _ _ e1, e2, e3, e4.mono le⟩
  refine ex_for (n := 2) (item := fun i => .int i) (fun i vs cs => ∃ ns τ o1 o2 o3, DeckOk ns ∧ TabInv (X.env.qual ++ "<lambda>") τ ∧ Fsub vs (fr0 d) ∧ cs = (d, iL ns) :: (L1, .var o1) :: (L2, .var o2) :: (L3, .var o3) :: τ) ?_ ⟨dkOf ns, _, none, none, none, dkOf_ok ns, ⟨#[], [], rfl, trivial, fun pos cv h => by simp [codeAmong] at h⟩, ?_, rfl⟩ (fun i vs cs hil hJ => ?_) (fun vs cs hJ => ?_)
  · exact src_range1 (hi := 2) (ev_builtin (by repeat first | exact List.Mem.head _ | apply List.Mem.tail) K.g_range rfl (by decide)) (el_cons ev_int el_nil) (by decide)
  · exact .keep (.drop (.drop (.drop (.drop (.drop (.drop (.drop (.drop (.drop (.drop (.drop (.drop (.drop (.drop (.drop (.drop (.drop (.drop (.drop (.drop (.drop (.drop (.drop (.drop (.drop (.drop (.drop (.drop (.drop (.drop (.drop .nil)))))))))))))))))))))))))))))))
  · obtain ⟨ns1, τ, o1, o2, o3, h1, h2, h3, rfl⟩ := hJ
    obtain ⟨vs1, hset⟩ := set_any (nk := lnk) (x := ks "_law_turn") (p := .int (i : Nat)) vs (by rw [h3.len]; rfl) (by simp)
    refine ⟨vs1, hset, fun z => ?_⟩
    refine ex_fsub (vs' := fr0 d) (fsub_set h3 hset (fun q g => by obtain h := get_fr0 g; exact absurd h (by decide +kernel)) (by decide +kernel)) ?_
    refine chunkA K X hX (z := z) (d := d) h1 (τ := τ) fun t f w tabs lby lo hi ns2 ha hb hc hd he hf hg hh => ?_
    obtain ⟨pB, pC, ⟨n, pD⟩, pE⟩ := hP t w tabs lby lo hi ha hb hd he hf hg
    refine chunkB K X hX hb hc hd he hf hg h2 pB fun τ' hτ' => ?_
    refine chunkC K X hX hb hc hd hf hg pC ?_
    refine chunkD K X hX hb hc hd hf hg pD ?_
    exact chunkE K X hX hh hb hc hd pE fun ns3 h3 => ex_nil ⟨_, _, rfl, Fsub.refl _, ns3, τ', _, _, _, h3, hτ', Fsub.refl _, rfl⟩
  · obtain ⟨ns1, τ, o1, o2, o3, h1, h2, h3, rfl⟩ := hJ
    refine ex_fsub h3 ?_
    refine ex_assign (p := vw [32, 97, 10, 98] 1) (ev_row1 (cc := [32, 97, 10, 98]) K.io rfl (by decide) (ev_globalR (by repeat first | exact List.Mem.head _ | apply List.Mem.tail) K.g_TextRow) (el_cons (ev_list (el_cons ev_int (el_cons ev_int (el_cons ev_int (el_cons ev_int el_nil)))) (by decide)) el_nil) (by decide)) (by repeat first | exact SetAt.head | apply SetAt.tail) ?_
    have hev : done [32, 97, 10, 98] ((starts [32, 97, 10, 98] 0 4).map (rigidE [32, 97, 10, 98] (-3) 8 false)).reverse = [97, 10, 98] := by decide +kernel
    have hok : ∀ e ∈ (starts [32, 97, 10, 98] 0 4).map (rigidE [32, 97, 10, 98] (-3) 8 false), EdOk e := by unfold EdOk; decide +kernel
    refine ex_return (ev_conv (ev_cmp (ev_call0 (ev_globalR (by repeat first | exact List.Mem.head _ | apply List.Mem.tail) K.g_law_done) K.d_law_done.isFn (el_cons (ev_str (l := [32, 97, 10, 98]) rfl) (el_cons (ev_call0 (ev_globalR (by repeat first | exact List.Mem.head _ | apply List.Mem.tail) K.g_rigid_edits) K.d_rigid_edits.isFn (el_cons (ev_local (by repeat first | exact GetAt.head | apply GetAt.tail)) (el_cons ev_int (el_cons ev_int (el_cons (ev_neg ev_int) (el_cons ev_int (el_cons ev_bool el_nil)))))) (fp_conv (K.f_rigid_edits [32, 97, 10, 98] 1 0 4 (w' := 8) (tabs := false) (lby := -3) (by decide) (by decide) (by decide) (by decide) (by decide) (by decide) (ind_bd 8 (by decide) (by decide) _ (by decide)) rfl rfl) rfl (r' := .list (((starts [32, 97, 10, 98] 0 4).map (rigidE [32, 97, 10, 98] (-3) 8 false)).reverse.map (edt 1))) (by rw [← ed_list, List.map_map]; rfl)) (by decide)) (el_cons ev_int el_nil))) (K.f_done (by decide) (by decide +kernel) (by decide) (done_args hok)) (by decide)) (ev_str (l := [97, 10, 98]) rfl) (by first | exact cp_lt | exact cp_le | exact cp_gt | exact cp_ge | exact cp_eq | exact cp_ne | exact cp_eqs | exact cp_nes | exact cp_eqb | exact cp_in_tup | exact cp_notin_tup | exact cp_in_str | exact cp_notin_str)) (by rw [hev]; rfl)) ⟨rfl, ?_⟩
    obtain ⟨arr, rest, rfl, _⟩ := h2
    exact ⟨arr, .tail _ (.tail _ (.tail _ (.tail _ (.head _))))⟩
end Mine

end
section
namespace Mine
open PySem
theorem plainAll : PlainAll := fun t w tabs lby lo hi ht hl hw hby hlh hhi =>
  ⟨plainB ht hl hw hby hlh hhi, plainC ht hl hw hlh hhi, plainD ht hl hw hlh hhi, ⟨ht, fun i hi => rel_ok ht hw.1 hi, (plainE0 ht hl hw).1, (plainE0 ht hl hw).2.1, (plainE0 ht hl hw).2.2⟩⟩
end Mine

end
section
open PySem PySem.W PyProof.Rows
namespace Mine
open PySem PySem.Calls PySem.W PyProof.Rows PySem.Builtin.Str
theorem get_init {x : Str} {p q : PV} (g : GetAt lnk (List.replicate 31 none ++ [some p]) x q) : x = ks "script" ∧ q = p := by
  have key : ∀ (nk : List Str) (n : Nat) (y : Str), nk.length = n → GetAt (nk ++ [y]) (List.replicate n none ++ [some p]) x q → x = y ∧ q = p := by
    intro nk
    induction nk with
    | nil =>
      intro n y hn g
      subst hn
      cases g with
      | head => exact ⟨rfl, rfl⟩
      | tail g => cases g
    | cons z nk ih =>
      intro n y hn g
      subst hn
      rw [List.length_cons, List.replicate_succ] at g
      cases g with
      | tail g => exact ih _ y rfl g
  exact key (lnk.take 31) 31 (ks "script") rfl g
theorem four_nd {L : Nat} (h : 304 < L) : [L + 1, L + 1 + 1, L + 1 + 1 + 1, 304].Nodup := by
  simp; lia
/-- the law's call, its head behind it -/
theorem walk (hP : PlainAll) {c : Cx} (K : KOk c) {A : Around} {env : Env} {s : Shared} {h0 h1 : Heap} {L : Addr} {m : Str → Option Value} {w0 w1 w2 : Obj} {a : Addr} {us : List Value} {ns : List Int} {body : List Stmt} {tk : Nat} {p : Program} {loose : List Str} {mean : ExcName → Option Value}
    (hbody : body = fbody 47) (rm : Rm 20 A) (X : c.K.In h0) (hp : c.p = p) (hlo : c.loose = loose) (T : Top p loose mean c.mg c.mb h0) (F : Fr h0 L h1 m) (N : News h0 L h1 [(L + 1 + 1 + 1, w2), (L + 1 + 1, w1), (L + 1, w0), (304, tabObj #[])]) (d2 : w2.data = .cell none) (d1 : w1.data = .cell none) (d0 : w0.data = .cell none)
    (hl : h0.IsList a us.toArray) (hi : IntsAre us ns) (hn : ns.length ≤ 63) (hC : CodeHd h0 306 304) (hL : 304 < L) (hm : m (ks "script") = some (.ref a))
    (hL0 : env.locals = L) (hk : env.scope.kind = .function) (hg : env.globals = mainGlobals) (hb : env.builtins = builtinsNs) (hloc : ∀ x ∈ lnk, env.kindOf x = some .local) (hgl : ∀ x ∈ lgl, env.kindOf x = some .globalImplicit)
    (hcells : env.cells = [(ks "_law_width", L + 1 + 1 + 1), (ks "_law_tabs", L + 1 + 1), (ks "_law_by", L + 1)]) (k1 : env.kindOf (ks "_law_by") = some .cell) (k2 : env.kindOf (ks "_law_tabs") = some .cell) (k3 : env.kindOf (ks "_law_width") = some .cell) (hcode : env.code = .ref 306) :
    wpAny (model c.prog c.w) A (execs body env) (fun fl s' => fl = .ret (.bool true) ∧ (∀ b o, h0.get? b = some o → s'.heap.get? b = some o) ∧ (∃ ps, s'.heap.get? 304 = some (tabObj ps)) ∧ s'.os = s.os ∧ s'.gens = s.gens) (fun _ _ => False) { s with heap := h1, toks := tk } := by
  subst hbody hp hlo hL0
  have bf : ∀ {a b : Str}, a ≠ b → (a == b) = false := fun h => by simpa using h
  let X0 : LX c (env.locals + 1) (env.locals + 1 + 1) (env.locals + 1 + 1 + 1) := {
    A := A, env := env, s0 := { s with heap := h0 }, F0 := fun a => h0.get? a, W := fun _ => False
    rm := rm, cf := ⟨X, fun h on => (topRead_of T).keeps on⟩, kind := hk, glob := hg, blt := hb, above := F.above, nd := by decide +kernel, loc := hloc, gls := hgl
    cls := fun y hy => by
      rw [hcells]
      simp only [List.mem_cons, List.not_mem_nil, or_false] at hy
      rcases hy with rfl | rfl | rfl
      · exact ⟨.inl k1, rfl⟩
      · exact ⟨.inl k2, rfl⟩
      · exact ⟨.inl k3, rfl⟩ }
  have n3 := N _ (.head _)
  have n2 := N _ (.tail _ (.head _))
  have n1 := N _ (.tail _ (.tail _ (.head _)))
  have n0 := N _ (.tail _ (.tail _ (.tail _ (.head _))))
  have hX : LawX X0 := by
    refine ⟨⟨hcode, fun h on => hC.keeps on, ?_⟩, hcells, k1, k2, k3⟩
    obtain ⟨bm, ob, b1, b2, b3, b4, b5, b6⟩ := T.bmain
    refine ⟨bm, ob, b1, b2, fun q => ?_, fun q => ?_, b3, b4, b5, b6⟩
    · obtain ⟨o, es, ep, e, hd, _⟩ := T.g
      rw [q, e] at b3; cases b3; rw [hd] at b6; cases b6
    · have := n0.2.2
      rw [q] at b3
      rw [b3] at this; cases this
  have hR : RawL a ns X0.F0 := by
    obtain ⟨o, e1, e2, n, e3⟩ := hl
    refine ⟨o, _, n, e1, e2, e3, ?_⟩
    have of : ∀ {ns : List Int} {us : List Value}, IntsAre us ns → Iss X0.F0 (ns.map PV.int) us := by
      intro ns us h
      induction h with
      | nil => exact .nil
      | cons n t _ ih => exact .cons .int ih
    exact of hi
  have hLn : h0.get? env.locals = none := Heap.get?_none_of_le F.above
  have i0 : Inv X0 (List.replicate 31 none ++ [some (.raw (.ref a))]) ((env.locals + 1, .var none) :: (env.locals + 1 + 1, .var none) :: (env.locals + 1 + 1 + 1, .var none) :: [(304, .st (· = tabObj #[]))]) [] { s with heap := h1, toks := tk } := by
    refine ⟨X0.F0, ⟨⟨h1, tk, rfl⟩, fun b o e => F.keep b o e, Fz.le_refl _, fun b o _ n => n, fun b o e _ => F.keep b o e, fun b hb => hb.elim, ⟨m, F.ns, fun x q g => ?_⟩, ⟨hLn, fun h => h⟩, fun z hz => ?_, ?_, fun t ht => nomatch ht⟩⟩
    · obtain ⟨rfl, rfl⟩ := get_init g
      exact ⟨_, hm, .raw⟩
    · simp only [List.mem_cons, List.not_mem_nil, or_false] at hz
      rcases hz with rfl | rfl | rfl | rfl
      · exact ⟨⟨w0, n1.1, d0⟩, n1.2.2, n1.2.1, .inr n1.2.2⟩
      · exact ⟨⟨w1, n2.1, d1⟩, n2.2.2, n2.2.1, .inr n2.2.2⟩
      · exact ⟨⟨w2, n3.1, d2⟩, n3.2.2, n3.2.1, .inr n3.2.2⟩
      · exact ⟨⟨_, n0.1, rfl⟩, n0.2.2, n0.2.1, .inr n0.2.2⟩
    · exact four_nd hL
  refine wm (law_walk K hP X0 hX hR hn [] _ i0) fun fl s' q => ?_
  cases fl with
  | next => obtain ⟨_, _, h, _⟩ := q; exact h.elim
  | ret v =>
    obtain ⟨p, vs, cs, ⟨rfl, arr, harr⟩, i⟩ := q
    have hv := i.tbool
    subst hv
    obtain ⟨G, i⟩ := i
    obtain ⟨h', t', e⟩ := i.st
    obtain ⟨⟨o, ho, e2⟩, _⟩ := i.cell _ harr
    have e2 : o = tabObj arr := e2
    subst e2
    refine ⟨rfl, fun b o e => i.keep b o e fun h => h, ⟨arr, ho⟩, ?_, ?_⟩
    · rw [e]
    · rw [e]
  | brk => exact q.elim
  | cont => exact q.elim
end Mine

end
section
open PySem PySem.W PyProof.Rows
namespace Mine
theorem len0 {us : List Value} (h : us.length = ([] : List Str).length) : us = [] := List.eq_nil_of_length_eq_zero h
theorem len1 {α : Type} {us : List α} {x : Str} (h : us.length = [x].length) : ∃ a, us = [a] := List.length_eq_one_iff.mp h
theorem len2 {α : Type} {us : List α} {x y : Str} (h : us.length = [x, y].length) : ∃ a b, us = [a, b] := match us, h with | [a, b], _ => ⟨a, b, rfl⟩
theorem len3 {α : Type} {us : List α} {x y z : Str} (h : us.length = [x, y, z].length) : ∃ a b c, us = [a, b, c] := match us, h with | [a, b, c], _ => ⟨a, b, c, rfl⟩
theorem len4 {α : Type} {us : List α} {x y z t : Str} (h : us.length = [x, y, z, t].length) : ∃ a b c d, us = [a, b, c, d] := match us, h with | [a, b, c, d], _ => ⟨a, b, c, d, rfl⟩
theorem len5 {α : Type} {us : List α} {x y z t u : Str} (h : us.length = [x, y, z, t, u].length) : ∃ a b c d e, us = [a, b, c, d, e] := match us, h with | [a, b, c, d, e], _ => ⟨a, b, c, d, e, rfl⟩
theorem len6 {α : Type} {us : List α} {x y z t u v : Str} (h : us.length = [x, y, z, t, u, v].length) : ∃ a b c d e f, us = [a, b, c, d, e, f] := match us, h with | [a, b, c, d, e, f], _ => ⟨a, b, c, d, e, f, rfl⟩
theorem allCell {names : List (Str × NameKind)} (h : names.all (fun x => decide (x.2 ≠ .cell)) = true) : ∀ x ∈ names, x.2 ≠ .cell := fun x hx => of_decide_eq_true (List.all_eq_true.mp h x hx)
theorem allLk {names : List (Str × NameKind)} {k : NameKind} {xs : List Str} (h : xs.all (fun x => decide (names.lookup x = some k)) = true) : ∀ x ∈ xs, names.lookup x = some k := fun x hx => of_decide_eq_true (List.all_eq_true.mp h x hx)
theorem rm_caller (env : Env) : Rm 20 (callerA.deeper env) := ⟨rfl, (by decide : callerA.depth + 1 + 20 < recursionLimit), (by decide : callerA.units + 3 + 8 * 20 < cLine)⟩
noncomputable def Kof {K : Frag} {h : Heap} (_ : K.In h) : Frag := K
noncomputable def hd.tw10727248033764811480 : Unit := ()
noncomputable def hd.tw16787755462059924576 : Unit := ()
noncomputable def hd.tw26425463804135960 : Unit := ()
noncomputable def hd.tw18045843111787437413 : Unit := ()
noncomputable def hd.tw6935196080544352101 : Unit := ()
noncomputable def hd.tw8539849791538168078 : Unit := ()
noncomputable def hd.tw10556086555744776959 : Unit := ()
noncomputable def hd.tw2327210489368252092 : Unit := ()
noncomputable def hd.tw5732804406350252772 : Unit := ()
noncomputable def hd.tw16213748851167669294 : Unit := ()
noncomputable def hd.tw7022753741928958675 : Unit := ()
noncomputable def hd.tw9251471199085437103 : Unit := ()
noncomputable def hd.tw17901334829092211166 : Unit := ()
noncomputable def hd.tw16240987189780228909 : Unit := ()
noncomputable def hd.tw18362790893298522503 : Unit := ()
noncomputable def hd.tw14560493823538711346 : Unit := ()
noncomputable def hd.tw10737712728331077403 : Unit := ()
noncomputable def hd.tw9386895884608548742 : Unit := ()
noncomputable def hd.tw5107316007074341285 : Unit := ()
noncomputable def hd.tw9641152695372364146 : Unit := ()
noncomputable def hd.tw18245042118932799458 : Unit := ()
noncomputable def hd.tw9783614193127449063 : Unit := ()
noncomputable def hd.tw17252143746492648416 : Unit := ()
noncomputable def hd.tw15837987909243819085 : Unit := ()
noncomputable def hd.tw4015398097383911347 : Unit := ()
noncomputable def hd.tw16064382804478563927 : Unit := ()
noncomputable def hd.tw16477043939570097188 : Unit := ()
noncomputable def hd.tw8716120427605611371 : Unit := ()
noncomputable def hd.tw15833661619300960221 : Unit := ()
noncomputable def hd.tw1506431575118746342 : Unit := ()
noncomputable def hd.tw12588582704262371052 : Unit := ()
noncomputable def hd.tw5608270528595127837 : Unit := ()
noncomputable def hd.tw1800889605409440832 : Unit := ()
noncomputable def hd.tw6830512106363814048 : Unit := ()
noncomputable def hd.tw2114630138375439770 : Unit := ()
noncomputable def hd.tw395138700845864316 : Unit := ()
noncomputable def hd.tw1836080755315867724 : Unit := ()
noncomputable def hd.tw8268277133935991078 : Unit := ()
noncomputable def hd.tw728884934406724761 : Unit := ()
noncomputable def hd.tw12092154237167983948 : Unit := ()
noncomputable def hd.tw922143313871775805 : Unit := ()
noncomputable def hd.tw8025032847418708242 : Unit := ()
noncomputable def hd.tw6545403380812914513 : Unit := ()
noncomputable def hd.tw2068664650715991707 : Unit := ()
noncomputable def hd.tw15759970867653108152 : Unit := ()
noncomputable def hd.tw15529170255622000948 : Unit := ()
noncomputable def hd.tw4065347644161347641 : Unit := ()
noncomputable def hd.tw17711083657039698284 : Unit := ()
noncomputable def hd.tw11210553801493137410 : Unit := ()
noncomputable def hd.tw17177331786930743035 : Unit := ()
noncomputable def hd.tw14457593812595234344 : Unit := ()
noncomputable def hd.tw1413172679324656950 : Unit := ()
noncomputable def hd.tw9277588360372424766 : Unit := ()
noncomputable def hd.tw5036846961687405229 : Unit := ()
noncomputable def hd.tw17950676927832955104 : Unit := ()
noncomputable def hd.tw2603259988358896889 : Unit := ()
noncomputable def hd.tw7120233287515763914 : Unit := ()
noncomputable def hd.tw701787995468756871 : Unit := ()
noncomputable def hd.tw10601615944963115059 : Unit := ()
noncomputable def hd.tw11652457597714270106 : Unit := ()
noncomputable def hd.tw15967140613478806237 : Unit := ()
noncomputable def hd.tw9345929723534960622 : Unit := ()
noncomputable def hd.tw11465210709893060100 : Unit := ()
noncomputable def hd.tw8960069828448710407 : Unit := ()
noncomputable def hd.tw7754304195085646258 : Unit := ()
noncomputable def hd.tw3229955645248102723 : Unit := ()
noncomputable def hd.tw13866372431405929976 : Unit := ()
noncomputable def hd.tw12271959270614036898 : Unit := ()
noncomputable def hd.tw1997569388931296116 : Unit := ()
noncomputable def hd.tw17183224562656869120 : Unit := ()
noncomputable def hd.tw16828841361933241965 : Unit := ()
noncomputable def hd.tw17447410573909459338 : Unit := ()
noncomputable def hd.tw12647368939536790636 : Unit := ()
noncomputable def hd.tw11917015161858427179 : Unit := ()
noncomputable def hd.tw7914949630228597729 : Unit := ()
noncomputable def hd.tw4706079058837389440 : Unit := ()
noncomputable def hd.tw9421340871869096474 : Unit := ()
noncomputable def hd.tw16194383521188589630 : Unit := ()
noncomputable def hd.tw4402725079659364252 : Unit := ()
noncomputable def hd.tw3493717111155160527 : Unit := ()
noncomputable def hd.tw6555240042291301478 : Unit := ()
noncomputable def hd.tw17673860158736603733 : Unit := ()
noncomputable def hd.tw9345676750909349944 : Unit := ()
noncomputable def hd.tw15642763164714097627 : Unit := ()
noncomputable def hd.tw8228950375871286339 : Unit := ()
noncomputable def hd.tw15527848837575444561 : Unit := ()
noncomputable def hd.tw11513968764499736323 : Unit := ()
noncomputable def hd.tw6819123309680001836 : Unit := ()
noncomputable def hd.tw6767318904944593275 : Unit := ()
noncomputable def hd.tw5961118342813265553 : Unit := ()
noncomputable def hd.tw5978321128707920903 : Unit := ()
noncomputable def hd.tw461538923250603899 : Unit := ()
noncomputable def hd.tw11319097763535126812 : Unit := ()
noncomputable def hd.tw17213754286329925777 : Unit := ()
noncomputable def hd.tw6924109203229866365 : Unit := ()
noncomputable def hd.tw15616948245753086127 : Unit := ()
noncomputable def hd.tw978945382295711627 : Unit := ()
noncomputable def hd.tw6293948785866598258 : Unit := ()
noncomputable def hd.tw11128854368766332075 : Unit := ()
noncomputable def hd.tw5148922909946612681 : Unit := ()
noncomputable def hd.tw5781342201191254626 : Unit := ()
noncomputable def hd.tw14176624398918483544 : Unit := ()
noncomputable def hd.tw3259873300814134281 : Unit := ()
noncomputable def hd.tw13372043803930879067 : Unit := ()
noncomputable def hd.tw4856431653887292112 : Unit := ()
noncomputable def hd.tw307737655149646647 : Unit := ()
noncomputable def hd.tw11117797201346649052 : Unit := ()
noncomputable def hd.tw18322514126500204803 : Unit := ()
noncomputable def hd.tw6838551448383532254 : Unit := ()
noncomputable def hd.tw8047900516022102942 : Unit := ()
noncomputable def hd.tw8671608845466749128 : Unit := ()
noncomputable def hd.tw12936449754285732098 : Unit := ()
noncomputable def hd.tw7752767780024739350 : Unit := ()
noncomputable def hd.tw17650839729002327288 : Unit := ()
noncomputable def hd.tw5373601922739893978 : Unit := ()
noncomputable def hd.tw7540655947842036084 : Unit := ()
noncomputable def hd.tw14353793391729792155 : Unit := ()
noncomputable def hd.tw4014540891139286612 : Unit := ()
noncomputable def hd.tw11953376511379268794 : Unit := ()
noncomputable def hd.tw15368132723985388332 : Unit := ()
noncomputable def hd.tw13518370688599389936 : Unit := ()
noncomputable def hd.tw13919464512627920130 : Unit := ()
noncomputable def hd.tw2167537188350426706 : Unit := ()
noncomputable def hd.tw3915529967508079626 : Unit := ()
noncomputable def hd.tw13609717118414637909 : Unit := ()
noncomputable def hd.tw4478964076566166474 : Unit := ()
noncomputable def hd.tw4115565904173853331 : Unit := ()
noncomputable def hd.tw10111801491309104144 : Unit := ()
noncomputable def hd.tw10525666975642140466 : Unit := ()
noncomputable def hd.tw12901994302517312135 : Unit := ()
noncomputable def hd.tw5987830557187376847 : Unit := ()
noncomputable def hd.tw2195365466389143174 : Unit := ()
noncomputable def hd.tw13225837485096350037 : Unit := ()
noncomputable def hd.tw3759623122121258479 : Unit := ()
noncomputable def hd.tw8117029840178788049 : Unit := ()
noncomputable def hd.tw16056359734778111409 : Unit := ()
noncomputable def hd.tw6060742912462422084 : Unit := ()
noncomputable def hd.tw8727321023445011275 : Unit := ()
noncomputable def hd.tw4993660671451451078 : Unit := ()
noncomputable def hd.tw1129884963351977449 : Unit := ()
noncomputable def hd.tw10258999931320997221 : Unit := ()
noncomputable def hd.tw15166520500009309586 : Unit := ()
noncomputable def hd.tw17574625026820762457 : Unit := ()
noncomputable def hd.tw9557236495431379559 : Unit := ()
noncomputable def hd.tw4172343393113369950 : Unit := ()
noncomputable def hd.tw16945582573551092051 : Unit := ()
noncomputable def hd.tw3381375190539634487 : Unit := ()
noncomputable def hd.tw13828106393651249627 : Unit := ()
noncomputable def hd.tw10743916045514856203 : Unit := ()
noncomputable def hd.tw10784824025267889561 : Unit := ()
noncomputable def hd.tw14705683404202351889 : Unit := ()
noncomputable def hd.tw4272726840584523970 : Unit := ()
noncomputable def hd.tw12487502673411948298 : Unit := ()
noncomputable def hd.tw3109861748172591687 : Unit := ()
noncomputable def hd.tw15595854959937240912 : Unit := ()
noncomputable def hd.tw6196171512934965099 : Unit := ()
noncomputable def hd.tw10458740792067480800 : Unit := ()
noncomputable def hd.tw3219085151875037572 : Unit := ()
noncomputable def hd.tw16904818350239718627 : Unit := ()
noncomputable def hd.tw6820862383352777685 : Unit := ()
noncomputable def hd.tw402640490398009360 : Unit := ()
noncomputable def hd.tw6276725880618359904 : Unit := ()
noncomputable def hd.tw991583007596301734 : Unit := ()
noncomputable def hd.tw18293851220164018083 : Unit := ()
noncomputable def hd.tw4478166936697009375 : Unit := ()
noncomputable def hd.tw5174551420813472067 : Unit := ()
noncomputable def hd.tw9170477692918782315 : Unit := ()
noncomputable def hd.tw18103342009636024947 : Unit := ()
noncomputable def hd.tw189712035060473897 : Unit := ()
noncomputable def hd.tw6123773746684550334 : Unit := ()
noncomputable def hd.tw5902613922787404954 : Unit := ()
noncomputable def hd.tw12949589719889679912 : Unit := ()
noncomputable def hd.tw14955159897011116063 : Unit := ()
noncomputable def hd.tw15089522573102190283 : Unit := ()
noncomputable def hd.tw9748044761591592747 : Unit := ()
noncomputable def hd.tw11054480109507316185 : Unit := ()
noncomputable def hd.tw2386827423013361158 : Unit := ()
noncomputable def hd.tw16634568088961857937 : Unit := ()
noncomputable def hd.tw13790719812936386609 : Unit := ()
noncomputable def hd.tw6164396464334811476 : Unit := ()
noncomputable def hd.tw2101469004524951375 : Unit := ()
noncomputable def hd.tw1013155817946168525 : Unit := ()
noncomputable def hd.tw1011335219593555734 : Unit := ()
noncomputable def hd.tw18093812233618175256 : Unit := ()
noncomputable def hd.tw12399718760709695909 : Unit := ()
noncomputable def hd.tw1222794163293265305 : Unit := ()
noncomputable def hd.tw4360684699965382250 : Unit := ()
noncomputable def hd.tw17672654358674132775 : Unit := ()
noncomputable def hd.tw8735263284916673568 : Unit := ()
noncomputable def hd.tw13267510147771200024 : Unit := ()
noncomputable def hd.tw11032806212648032379 : Unit := ()
noncomputable def hd.tw15042006015671813226 : Unit := ()
noncomputable def hd.tw18343703819029505601 : Unit := ()
noncomputable def hd.tw17681399029576232318 : Unit := ()
noncomputable def hd.tw8959176491354863721 : Unit := ()
noncomputable def hd.tw2930668341846507884 : Unit := ()
noncomputable def hd.tw7023726343779634624 : Unit := ()
noncomputable def hd.tw9741134391959003819 : Unit := ()
noncomputable def hd.tw10949625832625181284 : Unit := ()
noncomputable def hd.tw16722109127936396110 : Unit := ()
noncomputable def hd.tw5657824000916062451 : Unit := ()
noncomputable def hd.tw11402939732021071671 : Unit := ()
noncomputable def hd.tw6411954120941647267 : Unit := ()
noncomputable def hd.tw2391449824757734642 : Unit := ()
noncomputable def hd.tw6785817131721698500 : Unit := ()
noncomputable def hd.tw17258206423299326598 : Unit := ()
noncomputable def hd.tw15416985209724490359 : Unit := ()
noncomputable def hd.tw12070051907170230399 : Unit := ()
noncomputable def hd.tw9499510787657705874 : Unit := ()
noncomputable def hd.tw2442259710966052079 : Unit := ()
noncomputable def hd.tw16211521421427940678 : Unit := ()
noncomputable def hd.tw17714235663813219645 : Unit := ()
noncomputable def hd.tw10614716105012338702 : Unit := ()
noncomputable def hd.tw9960721518486171458 : Unit := ()
noncomputable def hd.tw1097998534492414930 : Unit := ()
noncomputable def hd.tw16007149819294483003 : Unit := ()
noncomputable def hd.tw17903497710992402801 : Unit := ()
noncomputable def hd.tw3919010098100093602 : Unit := ()
noncomputable def hd.tw17054507655720011243 : Unit := ()
noncomputable def hd.tw1760603350576429475 : Unit := ()
noncomputable def hd.tw3008623586974134963 : Unit := ()
noncomputable def hd.tw16920754564084929960 : Unit := ()
noncomputable def hd.tw17975533764899295144 : Unit := ()
noncomputable def hd.tw16868993833207775613 : Unit := ()
noncomputable def hd.tw1600037746751723098 : Unit := ()
noncomputable def hd.tw8458067239894703972 : Unit := ()
noncomputable def hd.tw13770079208771991547 : Unit := ()
noncomputable def hd.tw15790720579355451973 : Unit := ()
noncomputable def hd.tw11319892378374348655 : Unit := ()
noncomputable def hd.tw3452082135128663414 : Unit := ()
noncomputable def hd.tw17606422857730326317 : Unit := ()
noncomputable def hd.tw3451239065008710300 : Unit := ()
noncomputable def hd.tw6407587892757256292 : Unit := ()
noncomputable def hd.tw15411387601460861337 : Unit := ()
noncomputable def hd.tw4086058157674990017 : Unit := ()
noncomputable def hd.tw9673543361469618366 : Unit := ()
noncomputable def hd.tw8457440626546761165 : Unit := ()
noncomputable def hd.tw6082411064634330575 : Unit := ()
noncomputable def hd.tw9566141503761928105 : Unit := ()
noncomputable def hd.tw3571134770919094901 : Unit := ()
noncomputable def hd.tw13181700845877081190 : Unit := ()
noncomputable def hd.tw16345102440705955213 : Unit := ()
noncomputable def hd.tw11754176132448286083 : Unit := ()
noncomputable def hd.tw22551697357593593 : Unit := ()
noncomputable def hd.tw6291416237084387574 : Unit := ()
noncomputable def hd.tw7355570028127101125 : Unit := ()
noncomputable def hd.tw18264374347568628810 : Unit := ()
noncomputable def hd.tw758273949599710562 : Unit := ()
noncomputable def hd.tw7289634563603522867 : Unit := ()
noncomputable def hd.tw17542962492245011380 : Unit := ()
noncomputable def hd.tw5343241284826551009 : Unit := ()
noncomputable def hd.tw11162318198679636149 : Unit := ()
noncomputable def hd.tw18219297243305740317 : Unit := ()
noncomputable def hd.tw4702841417184801058 : Unit := ()
noncomputable def hd.tw11136197038861592535 : Unit := ()
noncomputable def hd.tw18293732401869909652 : Unit := ()
noncomputable def hd.tw11660266114150955751 : Unit := ()
noncomputable def hd.tw6442067068224118133 : Unit := ()
noncomputable def hd.tw9657781627882305391 : Unit := ()
noncomputable def hd.tw1241404454085649124 : Unit := ()
noncomputable def hd.tw4297731678662094536 : Unit := ()
noncomputable def hd.tw7028611270464810887 : Unit := ()
noncomputable def hd.tw6394381022753523788 : Unit := ()
noncomputable def hd.tw17062030032774818151 : Unit := ()
noncomputable def hd.tw6305734824756694309 : Unit := ()
noncomputable def hd.tw2708950531961675432 : Unit := ()
noncomputable def hd.tw4494801613693538912 : Unit := ()
noncomputable def hd.tw10424393626065333798 : Unit := ()
noncomputable def hd.tw1439246655266547700 : Unit := ()
noncomputable def hd.tw12023040214023829324 : Unit := ()
end Mine
set_option Elab.async true in
set_option maxRecDepth 100000 in
set_option maxHeartbeats 8000000 in
theorem Mine.hd : PySem.Challenge.rw_np0041_01.Holds := by
  w_on
  o_law
  k_head
  case hw => w_witness2
  w_strict k_go0
  rename_i hI hrr hc1 hc2 hD hh1 tk1 w2 w1 w0 e2 e1 e0 CA X' T' K' F' N' l0
  have kok : ∀ p l w' mg mb, Mine.KOk ⟨PySem.Challenge.rw_np0041_01.row.prog, w', Mine.Kof X', p, l, mg, mb⟩ := fun p l w' mg mb => Mine.KOk.mk
    ⟨by kernel_rfl, by kernel_rfl, by kernel_rfl, by kernel_rfl, by kernel_rfl, ⟨by kernel_rfl, by kernel_rfl⟩, ⟨by kernel_rfl, by kernel_rfl⟩, ⟨by kernel_rfl, by kernel_rfl⟩⟩
    (by kernel_rfl)
    (by kernel_rfl)
    (by kernel_rfl)
    (by kernel_rfl)
    (by kernel_rfl)
    (by kernel_rfl)
    (by kernel_rfl)
    (by kernel_rfl)
    (by kernel_rfl)
    (by kernel_rfl)
    (by kernel_rfl)
    (by kernel_rfl)
    (by kernel_rfl)
    (by kernel_rfl)
    (by kernel_rfl)
    (by kernel_rfl)
    (by kernel_rfl)
    (by kernel_rfl)
    (by kernel_rfl)
    (by kernel_rfl)
    (by kernel_rfl)
    (by kernel_rfl)
    (by kernel_rfl)
    (by kernel_rfl)
    (by kernel_rfl)
    (by kernel_rfl)
    (by kernel_rfl)
    (by kernel_rfl)
    (by kernel_rfl)
    (by kernel_rfl)
    (by kernel_rfl)
    (by kernel_rfl)
    (by kernel_rfl)
    (by kernel_rfl)
    (by kernel_rfl)
    (by kernel_rfl)
    (by kernel_rfl)
    (by kernel_rfl)
    (by kernel_rfl)
    (by kernel_rfl)
    (by kernel_rfl)
    (by kernel_rfl)
    (by kernel_rfl)
    (by kernel_rfl)
    (by kernel_rfl)
    (by kernel_rfl)
    (by kernel_rfl)
    (by kernel_rfl)
    (by kernel_rfl)
    (by kernel_rfl)
    (by kernel_rfl)
    ⟨⟨Mine.objOf (Mine.Kof X') 219, Mine.fdatOf (Mine.Kof X') 219, by kernel_rfl, by kernel_rfl, by kernel_rfl, by kernel_rfl, by kernel_rfl, by kernel_rfl, by kernel_rfl, fun us h => by obtain ⟨a, rfl⟩ := Mine.len1 h; kernel_rfl, Mine.allCell (by kernel_rfl), Mine.allLk (by kernel_rfl), Mine.allLk (by kernel_rfl), by kernel_rfl, by kernel_rfl, by kernel_rfl⟩, by decide +kernel⟩
    ⟨⟨Mine.objOf (Mine.Kof X') 226, Mine.fdatOf (Mine.Kof X') 226, by kernel_rfl, by kernel_rfl, by kernel_rfl, by kernel_rfl, by kernel_rfl, by kernel_rfl, by kernel_rfl, fun us h => by obtain ⟨a, rfl⟩ := Mine.len1 h; kernel_rfl, Mine.allCell (by kernel_rfl), Mine.allLk (by kernel_rfl), Mine.allLk (by kernel_rfl), by kernel_rfl, by kernel_rfl, by kernel_rfl⟩, by decide +kernel⟩
    ⟨⟨Mine.objOf (Mine.Kof X') 233, Mine.fdatOf (Mine.Kof X') 233, by kernel_rfl, by kernel_rfl, by kernel_rfl, by kernel_rfl, by kernel_rfl, by kernel_rfl, by kernel_rfl, fun us h => by obtain ⟨a, b, rfl⟩ := Mine.len2 h; kernel_rfl, Mine.allCell (by kernel_rfl), Mine.allLk (by kernel_rfl), Mine.allLk (by kernel_rfl), by kernel_rfl, by kernel_rfl, by kernel_rfl⟩, by decide +kernel⟩
    ⟨⟨Mine.objOf (Mine.Kof X') 22, Mine.fdatOf (Mine.Kof X') 22, by kernel_rfl, by kernel_rfl, by kernel_rfl, by kernel_rfl, by kernel_rfl, by kernel_rfl, by kernel_rfl, fun us h => by obtain ⟨a, b, rfl⟩ := Mine.len2 h; kernel_rfl, Mine.allCell (by kernel_rfl), Mine.allLk (by kernel_rfl), Mine.allLk (by kernel_rfl), by kernel_rfl, by kernel_rfl, by kernel_rfl⟩, by decide +kernel⟩
    ⟨⟨Mine.objOf (Mine.Kof X') 29, Mine.fdatOf (Mine.Kof X') 29, by kernel_rfl, by kernel_rfl, by kernel_rfl, by kernel_rfl, by kernel_rfl, by kernel_rfl, by kernel_rfl, fun us h => by obtain ⟨a, b, rfl⟩ := Mine.len2 h; kernel_rfl, Mine.allCell (by kernel_rfl), Mine.allLk (by kernel_rfl), Mine.allLk (by kernel_rfl), by kernel_rfl, by kernel_rfl, by kernel_rfl⟩, by decide +kernel⟩
    ⟨⟨Mine.objOf (Mine.Kof X') 36, Mine.fdatOf (Mine.Kof X') 36, by kernel_rfl, by kernel_rfl, by kernel_rfl, by kernel_rfl, by kernel_rfl, by kernel_rfl, by kernel_rfl, fun us h => by obtain ⟨a, b, rfl⟩ := Mine.len2 h; kernel_rfl, Mine.allCell (by kernel_rfl), Mine.allLk (by kernel_rfl), Mine.allLk (by kernel_rfl), by kernel_rfl, by kernel_rfl, by kernel_rfl⟩, by decide +kernel⟩
    ⟨⟨Mine.objOf (Mine.Kof X') 43, Mine.fdatOf (Mine.Kof X') 43, by kernel_rfl, by kernel_rfl, by kernel_rfl, by kernel_rfl, by kernel_rfl, by kernel_rfl, by kernel_rfl, fun us h => by obtain ⟨a, b, rfl⟩ := Mine.len2 h; kernel_rfl, Mine.allCell (by kernel_rfl), Mine.allLk (by kernel_rfl), Mine.allLk (by kernel_rfl), by kernel_rfl, by kernel_rfl, by kernel_rfl⟩, by decide +kernel⟩
    ⟨⟨Mine.objOf (Mine.Kof X') 50, Mine.fdatOf (Mine.Kof X') 50, by kernel_rfl, by kernel_rfl, by kernel_rfl, by kernel_rfl, by kernel_rfl, by kernel_rfl, by kernel_rfl, fun us h => by obtain ⟨a, b, rfl⟩ := Mine.len2 h; kernel_rfl, Mine.allCell (by kernel_rfl), Mine.allLk (by kernel_rfl), Mine.allLk (by kernel_rfl), by kernel_rfl, by kernel_rfl, by kernel_rfl⟩, by decide +kernel⟩
    ⟨⟨Mine.objOf (Mine.Kof X') 57, Mine.fdatOf (Mine.Kof X') 57, by kernel_rfl, by kernel_rfl, by kernel_rfl, by kernel_rfl, by kernel_rfl, by kernel_rfl, by kernel_rfl, fun us h => by obtain ⟨a, b, rfl⟩ := Mine.len2 h; kernel_rfl, Mine.allCell (by kernel_rfl), Mine.allLk (by kernel_rfl), Mine.allLk (by kernel_rfl), by kernel_rfl, by kernel_rfl, by kernel_rfl⟩, by decide +kernel⟩
    ⟨⟨Mine.objOf (Mine.Kof X') 64, Mine.fdatOf (Mine.Kof X') 64, by kernel_rfl, by kernel_rfl, by kernel_rfl, by kernel_rfl, by kernel_rfl, by kernel_rfl, by kernel_rfl, fun us h => by obtain ⟨a, b, rfl⟩ := Mine.len2 h; kernel_rfl, Mine.allCell (by kernel_rfl), Mine.allLk (by kernel_rfl), Mine.allLk (by kernel_rfl), by kernel_rfl, by kernel_rfl, by kernel_rfl⟩, by decide +kernel⟩
    ⟨⟨Mine.objOf (Mine.Kof X') 71, Mine.fdatOf (Mine.Kof X') 71, by kernel_rfl, by kernel_rfl, by kernel_rfl, by kernel_rfl, by kernel_rfl, by kernel_rfl, by kernel_rfl, fun us h => by obtain ⟨a, b, rfl⟩ := Mine.len2 h; kernel_rfl, Mine.allCell (by kernel_rfl), Mine.allLk (by kernel_rfl), Mine.allLk (by kernel_rfl), by kernel_rfl, by kernel_rfl, by kernel_rfl⟩, by decide +kernel⟩
    ⟨⟨Mine.objOf (Mine.Kof X') 78, Mine.fdatOf (Mine.Kof X') 78, by kernel_rfl, by kernel_rfl, by kernel_rfl, by kernel_rfl, by kernel_rfl, by kernel_rfl, by kernel_rfl, fun us h => by obtain ⟨a, b, rfl⟩ := Mine.len2 h; kernel_rfl, Mine.allCell (by kernel_rfl), Mine.allLk (by kernel_rfl), Mine.allLk (by kernel_rfl), by kernel_rfl, by kernel_rfl, by kernel_rfl⟩, by decide +kernel⟩
    ⟨⟨Mine.objOf (Mine.Kof X') 85, Mine.fdatOf (Mine.Kof X') 85, by kernel_rfl, by kernel_rfl, by kernel_rfl, by kernel_rfl, by kernel_rfl, by kernel_rfl, by kernel_rfl, fun us h => by obtain ⟨a, b, c, rfl⟩ := Mine.len3 h; kernel_rfl, Mine.allCell (by kernel_rfl), Mine.allLk (by kernel_rfl), Mine.allLk (by kernel_rfl), by kernel_rfl, by kernel_rfl, by kernel_rfl⟩, by decide +kernel⟩
    ⟨⟨Mine.objOf (Mine.Kof X') 92, Mine.fdatOf (Mine.Kof X') 92, by kernel_rfl, by kernel_rfl, by kernel_rfl, by kernel_rfl, by kernel_rfl, by kernel_rfl, by kernel_rfl, fun us h => by obtain ⟨a, b, c, rfl⟩ := Mine.len3 h; kernel_rfl, Mine.allCell (by kernel_rfl), Mine.allLk (by kernel_rfl), Mine.allLk (by kernel_rfl), by kernel_rfl, by kernel_rfl, by kernel_rfl⟩, by decide +kernel⟩
    ⟨⟨Mine.objOf (Mine.Kof X') 99, Mine.fdatOf (Mine.Kof X') 99, by kernel_rfl, by kernel_rfl, by kernel_rfl, by kernel_rfl, by kernel_rfl, by kernel_rfl, by kernel_rfl, fun us h => by obtain ⟨a, b, c, d, rfl⟩ := Mine.len4 h; kernel_rfl, Mine.allCell (by kernel_rfl), Mine.allLk (by kernel_rfl), Mine.allLk (by kernel_rfl), by kernel_rfl, by kernel_rfl, by kernel_rfl⟩, by decide +kernel⟩
    ⟨⟨Mine.objOf (Mine.Kof X') 106, Mine.fdatOf (Mine.Kof X') 106, by kernel_rfl, by kernel_rfl, by kernel_rfl, by kernel_rfl, by kernel_rfl, by kernel_rfl, by kernel_rfl, fun us h => by obtain ⟨a, b, c, rfl⟩ := Mine.len3 h; kernel_rfl, Mine.allCell (by kernel_rfl), Mine.allLk (by kernel_rfl), Mine.allLk (by kernel_rfl), by kernel_rfl, by kernel_rfl, by kernel_rfl⟩, by decide +kernel⟩
    ⟨⟨Mine.objOf (Mine.Kof X') 113, Mine.fdatOf (Mine.Kof X') 113, by kernel_rfl, by kernel_rfl, by kernel_rfl, by kernel_rfl, by kernel_rfl, by kernel_rfl, by kernel_rfl, fun us h => by obtain ⟨a, b, c, d, rfl⟩ := Mine.len4 h; kernel_rfl, Mine.allCell (by kernel_rfl), Mine.allLk (by kernel_rfl), Mine.allLk (by kernel_rfl), by kernel_rfl, by kernel_rfl, by kernel_rfl⟩, by decide +kernel⟩
    ⟨⟨Mine.objOf (Mine.Kof X') 120, Mine.fdatOf (Mine.Kof X') 120, by kernel_rfl, by kernel_rfl, by kernel_rfl, by kernel_rfl, by kernel_rfl, by kernel_rfl, by kernel_rfl, fun us h => by obtain ⟨a, b, c, rfl⟩ := Mine.len3 h; kernel_rfl, Mine.allCell (by kernel_rfl), Mine.allLk (by kernel_rfl), Mine.allLk (by kernel_rfl), by kernel_rfl, by kernel_rfl, by kernel_rfl⟩, by decide +kernel⟩
    ⟨⟨Mine.objOf (Mine.Kof X') 127, Mine.fdatOf (Mine.Kof X') 127, by kernel_rfl, by kernel_rfl, by kernel_rfl, by kernel_rfl, by kernel_rfl, by kernel_rfl, by kernel_rfl, fun us h => by obtain ⟨a, b, c, d, e, rfl⟩ := Mine.len5 h; kernel_rfl, Mine.allCell (by kernel_rfl), Mine.allLk (by kernel_rfl), Mine.allLk (by kernel_rfl), by kernel_rfl, by kernel_rfl, by kernel_rfl⟩, by decide +kernel⟩
    ⟨⟨Mine.objOf (Mine.Kof X') 134, Mine.fdatOf (Mine.Kof X') 134, by kernel_rfl, by kernel_rfl, by kernel_rfl, by kernel_rfl, by kernel_rfl, by kernel_rfl, by kernel_rfl, fun us h => by obtain ⟨a, b, c, d, e, f, rfl⟩ := Mine.len6 h; kernel_rfl, Mine.allCell (by kernel_rfl), Mine.allLk (by kernel_rfl), Mine.allLk (by kernel_rfl), by kernel_rfl, by kernel_rfl, by kernel_rfl⟩, by decide +kernel⟩
    ⟨⟨Mine.objOf (Mine.Kof X') 141, Mine.fdatOf (Mine.Kof X') 141, by kernel_rfl, by kernel_rfl, by kernel_rfl, by kernel_rfl, by kernel_rfl, by kernel_rfl, by kernel_rfl, fun us h => by obtain ⟨a, b, c, d, e, f, rfl⟩ := Mine.len6 h; kernel_rfl, Mine.allCell (by kernel_rfl), Mine.allLk (by kernel_rfl), Mine.allLk (by kernel_rfl), by kernel_rfl, by kernel_rfl, by kernel_rfl⟩, by decide +kernel⟩
    ⟨⟨Mine.objOf (Mine.Kof X') 148, Mine.fdatOf (Mine.Kof X') 148, by kernel_rfl, by kernel_rfl, by kernel_rfl, by kernel_rfl, by kernel_rfl, by kernel_rfl, by kernel_rfl, fun us h => by obtain ⟨a, b, c, d, rfl⟩ := Mine.len4 h; kernel_rfl, Mine.allCell (by kernel_rfl), Mine.allLk (by kernel_rfl), Mine.allLk (by kernel_rfl), by kernel_rfl, by kernel_rfl, by kernel_rfl⟩, by decide +kernel⟩
    ⟨⟨Mine.objOf (Mine.Kof X') 155, Mine.fdatOf (Mine.Kof X') 155, by kernel_rfl, by kernel_rfl, by kernel_rfl, by kernel_rfl, by kernel_rfl, by kernel_rfl, by kernel_rfl, fun us h => by obtain ⟨a, b, c, d, rfl⟩ := Mine.len4 h; kernel_rfl, Mine.allCell (by kernel_rfl), Mine.allLk (by kernel_rfl), Mine.allLk (by kernel_rfl), by kernel_rfl, by kernel_rfl, by kernel_rfl⟩, by decide +kernel⟩
    ⟨⟨Mine.objOf (Mine.Kof X') 162, Mine.fdatOf (Mine.Kof X') 162, by kernel_rfl, by kernel_rfl, by kernel_rfl, by kernel_rfl, by kernel_rfl, by kernel_rfl, by kernel_rfl, fun us h => by obtain ⟨a, b, rfl⟩ := Mine.len2 h; kernel_rfl, Mine.allCell (by kernel_rfl), Mine.allLk (by kernel_rfl), Mine.allLk (by kernel_rfl), by kernel_rfl, by kernel_rfl, by kernel_rfl⟩, by decide +kernel⟩
    ⟨⟨Mine.objOf (Mine.Kof X') 169, Mine.fdatOf (Mine.Kof X') 169, by kernel_rfl, by kernel_rfl, by kernel_rfl, by kernel_rfl, by kernel_rfl, by kernel_rfl, by kernel_rfl, fun us h => by obtain ⟨a, b, c, d, rfl⟩ := Mine.len4 h; kernel_rfl, Mine.allCell (by kernel_rfl), Mine.allLk (by kernel_rfl), Mine.allLk (by kernel_rfl), by kernel_rfl, by kernel_rfl, by kernel_rfl⟩, by decide +kernel⟩
    ⟨⟨Mine.objOf (Mine.Kof X') 176, Mine.fdatOf (Mine.Kof X') 176, by kernel_rfl, by kernel_rfl, by kernel_rfl, by kernel_rfl, by kernel_rfl, by kernel_rfl, by kernel_rfl, fun us h => by obtain ⟨a, b, c, d, rfl⟩ := Mine.len4 h; kernel_rfl, Mine.allCell (by kernel_rfl), Mine.allLk (by kernel_rfl), Mine.allLk (by kernel_rfl), by kernel_rfl, by kernel_rfl, by kernel_rfl⟩, by decide +kernel⟩
    ⟨⟨Mine.objOf (Mine.Kof X') 183, Mine.fdatOf (Mine.Kof X') 183, by kernel_rfl, by kernel_rfl, by kernel_rfl, by kernel_rfl, by kernel_rfl, by kernel_rfl, by kernel_rfl, fun us h => by obtain ⟨a, b, rfl⟩ := Mine.len2 h; kernel_rfl, Mine.allCell (by kernel_rfl), Mine.allLk (by kernel_rfl), Mine.allLk (by kernel_rfl), by kernel_rfl, by kernel_rfl, by kernel_rfl⟩, by decide +kernel⟩
    ⟨⟨Mine.objOf (Mine.Kof X') 190, Mine.fdatOf (Mine.Kof X') 190, by kernel_rfl, by kernel_rfl, by kernel_rfl, by kernel_rfl, by kernel_rfl, by kernel_rfl, by kernel_rfl, fun us h => by obtain ⟨a, b, c, d, rfl⟩ := Mine.len4 h; kernel_rfl, Mine.allCell (by kernel_rfl), Mine.allLk (by kernel_rfl), Mine.allLk (by kernel_rfl), by kernel_rfl, by kernel_rfl, by kernel_rfl⟩, by decide +kernel⟩
    ⟨⟨Mine.objOf (Mine.Kof X') 197, Mine.fdatOf (Mine.Kof X') 197, by kernel_rfl, by kernel_rfl, by kernel_rfl, by kernel_rfl, by kernel_rfl, by kernel_rfl, by kernel_rfl, fun us h => by obtain ⟨a, b, c, d, rfl⟩ := Mine.len4 h; kernel_rfl, Mine.allCell (by kernel_rfl), Mine.allLk (by kernel_rfl), Mine.allLk (by kernel_rfl), by kernel_rfl, by kernel_rfl, by kernel_rfl⟩, by decide +kernel⟩
    ⟨⟨Mine.objOf (Mine.Kof X') 247, Mine.fdatOf (Mine.Kof X') 247, by kernel_rfl, by kernel_rfl, by kernel_rfl, by kernel_rfl, by kernel_rfl, by kernel_rfl, by kernel_rfl, fun us h => by obtain ⟨a, b, rfl⟩ := Mine.len2 h; kernel_rfl, Mine.allCell (by kernel_rfl), Mine.allLk (by kernel_rfl), Mine.allLk (by kernel_rfl), by kernel_rfl, by kernel_rfl, by kernel_rfl⟩, by decide +kernel⟩
    ⟨⟨Mine.objOf (Mine.Kof X') 252, Mine.fdatOf (Mine.Kof X') 252, by kernel_rfl, by kernel_rfl, by kernel_rfl, by kernel_rfl, by kernel_rfl, by kernel_rfl, by kernel_rfl, fun us h => by obtain ⟨a, rfl⟩ := Mine.len1 h; kernel_rfl, Mine.allCell (by kernel_rfl), Mine.allLk (by kernel_rfl), Mine.allLk (by kernel_rfl), by kernel_rfl, by kernel_rfl, by kernel_rfl⟩, by decide +kernel⟩
    ⟨⟨Mine.objOf (Mine.Kof X') 259, Mine.fdatOf (Mine.Kof X') 259, by kernel_rfl, by kernel_rfl, by kernel_rfl, by kernel_rfl, by kernel_rfl, by kernel_rfl, by kernel_rfl, fun us h => by obtain ⟨a, b, rfl⟩ := Mine.len2 h; kernel_rfl, Mine.allCell (by kernel_rfl), Mine.allLk (by kernel_rfl), Mine.allLk (by kernel_rfl), by kernel_rfl, by kernel_rfl, by kernel_rfl⟩, by decide +kernel⟩
    ⟨⟨Mine.objOf (Mine.Kof X') 269, Mine.fdatOf (Mine.Kof X') 269, by kernel_rfl, by kernel_rfl, by kernel_rfl, by kernel_rfl, by kernel_rfl, by kernel_rfl, by kernel_rfl, fun us h => by obtain ⟨a, b, c, rfl⟩ := Mine.len3 h; kernel_rfl, Mine.allCell (by kernel_rfl), Mine.allLk (by kernel_rfl), Mine.allLk (by kernel_rfl), by kernel_rfl, by kernel_rfl, by kernel_rfl⟩, by decide +kernel⟩
    ⟨⟨Mine.objOf (Mine.Kof X') 276, Mine.fdatOf (Mine.Kof X') 276, by kernel_rfl, by kernel_rfl, by kernel_rfl, by kernel_rfl, by kernel_rfl, by kernel_rfl, by kernel_rfl, fun us h => by obtain ⟨a, b, c, d, rfl⟩ := Mine.len4 h; kernel_rfl, Mine.allCell (by kernel_rfl), Mine.allLk (by kernel_rfl), Mine.allLk (by kernel_rfl), by kernel_rfl, by kernel_rfl, by kernel_rfl⟩, by decide +kernel⟩
    ⟨⟨Mine.objOf (Mine.Kof X') 283, Mine.fdatOf (Mine.Kof X') 283, by kernel_rfl, by kernel_rfl, by kernel_rfl, by kernel_rfl, by kernel_rfl, by kernel_rfl, by kernel_rfl, fun us h => by obtain ⟨a, b, rfl⟩ := Mine.len2 h; kernel_rfl, Mine.allCell (by kernel_rfl), Mine.allLk (by kernel_rfl), Mine.allLk (by kernel_rfl), by kernel_rfl, by kernel_rfl, by kernel_rfl⟩, by decide +kernel⟩
    ⟨⟨Mine.objOf (Mine.Kof X') 290, Mine.fdatOf (Mine.Kof X') 290, by kernel_rfl, by kernel_rfl, by kernel_rfl, by kernel_rfl, by kernel_rfl, by kernel_rfl, by kernel_rfl, fun us h => by obtain ⟨a, b, rfl⟩ := Mine.len2 h; kernel_rfl, Mine.allCell (by kernel_rfl), Mine.allLk (by kernel_rfl), Mine.allLk (by kernel_rfl), by kernel_rfl, by kernel_rfl, by kernel_rfl⟩, by decide +kernel⟩
    ⟨⟨Mine.objOf (Mine.Kof X') 297, Mine.fdatOf (Mine.Kof X') 297, by kernel_rfl, by kernel_rfl, by kernel_rfl, by kernel_rfl, by kernel_rfl, by kernel_rfl, by kernel_rfl, fun us h => by obtain ⟨a, b, c, d, rfl⟩ := Mine.len4 h; kernel_rfl, Mine.allCell (by kernel_rfl), Mine.allLk (by kernel_rfl), Mine.allLk (by kernel_rfl), by kernel_rfl, by kernel_rfl, by kernel_rfl⟩, by decide +kernel⟩
    ⟨⟨Mine.objOf (Mine.Kof X') 302, Mine.fdatOf (Mine.Kof X') 302, by kernel_rfl, by kernel_rfl, by kernel_rfl, by kernel_rfl, by kernel_rfl, by kernel_rfl, by kernel_rfl, fun us h => by obtain ⟨a, b, c, d, rfl⟩ := Mine.len4 h; kernel_rfl, Mine.allCell (by kernel_rfl), Mine.allLk (by kernel_rfl), Mine.allLk (by kernel_rfl), by kernel_rfl, by kernel_rfl, by kernel_rfl⟩, by decide +kernel⟩
    ⟨⟨by kernel_rfl, by kernel_rfl, by kernel_rfl, by kernel_rfl, by kernel_rfl, by kernel_rfl, Mine.allCell (by kernel_rfl), Mine.allLk (by kernel_rfl), Mine.allLk (by kernel_rfl), by kernel_rfl, by kernel_rfl, by kernel_rfl⟩,
      fun s a b d X => binds_K (T := 205) (o := Mine.objOf (Mine.Kof X') 205) X (by kernel_rfl) (by kernel_rfl) (by with_unfolding_all rfl) (by with_unfolding_all rfl) (by with_unfolding_all rfl),
      ⟨_, fun s a b X => binds_K (T := 205) (o := Mine.objOf (Mine.Kof X') 205) X (by kernel_rfl) (by kernel_rfl) (by with_unfolding_all rfl) (by with_unfolding_all rfl) (by with_unfolding_all rfl)⟩,
      by kernel_rfl, ⟨by kernel_rfl, by kernel_rfl⟩, by kernel_rfl, by kernel_rfl, by kernel_rfl, by kernel_rfl, by kernel_rfl, by kernel_rfl, by kernel_rfl⟩
    ⟨⟨Mine.objOf (Mine.Kof X') 264, Mine.fdatOf (Mine.Kof X') 264, by kernel_rfl, by kernel_rfl, by kernel_rfl, by kernel_rfl, by kernel_rfl, by kernel_rfl, by kernel_rfl, fun u v w => by kernel_rfl, by kernel_rfl, by kernel_rfl, by kernel_rfl, by kernel_rfl⟩, by decide +kernel⟩
  refine wpAny_mono (Mine.walk Mine.plainAll (c := ⟨_, _, Mine.Kof X', _, _, _, _⟩) (kok _ _ _ _ _) (by kernel_rfl) (Mine.rm_caller _) X' rfl rfl T' F' N' (e2.trans (by kernel_rfl)) (e1.trans (by kernel_rfl)) (e0.trans (by kernel_rfl)) lifted hI (by lia) codeHd l0 (by kernel_rfl) (by kernel_rfl) (by kernel_rfl) (by kernel_rfl) (by kernel_rfl)
    (Mine.allLk (by kernel_rfl)) (Mine.allLk (by kernel_rfl)) (by kernel_rfl) (by kernel_rfl) (by kernel_rfl) (by kernel_rfl) (by kernel_rfl)) (fun fl s' hq => ?zq) (fun _ _ hq => hq.elim)
  case zq =>
    obtain ⟨rfl, h1, ⟨ps, h2⟩, h3, h4⟩ := hq
    refine ⟨⟨.inl ⟨.bool true, .bool true, [], rfl, fun _ => rfl, .bool _, by kernel_rfl, fun _ => ⟨.nil, fun _ h => nomatch h⟩⟩, h1, h3, h4.trans (by assumption)⟩, ⟨ps, h2⟩, trivial⟩

end
theorem PySem.Challenge.cw_np0041_01_holds : PySem.Challenge.rw_np0041_01.Holds :=
  Mine.hd
