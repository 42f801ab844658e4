import PyProof.Rows.All
import Wide.All
import OpenK.AllK
import Wide.FinOn
import HandS.ForMost
import HandS.ForExc
import HandS.TupAny
import HandS.TupLe
import HandS.Deep
import HandS.Flow
import HandS.IsInst
import KE.KTupSum
import HandS.CallSlots
import HandS.Style
import HandS.Defaults
import HandS.Head0
import HandS.Head1
import HandS.Head2
import HandS.HeadHook1
import HandS.HeadHook2
import HandS.HeadWalk
import HandS.EndTab
import PySem.Challenge.RW_portage_k44_homes
set_option Elab.async false
set_option linter.all false
set_option maxRecDepth 100000
set_option maxHeartbeats 0
/-! PI0: data, the store of the interpreter, its monad. -/
namespace PI
open PySem

/-- data without identity: what a tuple, a number, a text is -/
inductive D where
  | non | bl (b : Bool) | int (i : Int) | str (s : Str) | tup (l : List D)
  deriving Inhabited

mutual
def D.py : D → PyData
  | .non => .none
  | .bl b => .bool b
  | .int i => .int i
  | .str s => .str s
  | .tup l => .tuple (pys l)
def pys : List D → List PyData
  | [] => []
  | d :: ds => D.py d :: pys ds
end
theorem pys_map : ∀ l : List D, pys l = l.map D.py
  | [] => by rw [pys]; rfl
  | d :: ds => by rw [pys, pys_map ds]; rfl

mutual
def D.dec : (a b : D) → Decidable (a = b)
  | .non, .non => .isTrue rfl
  | .bl a, .bl b => if h : a = b then .isTrue (by rw [h]) else .isFalse (fun e => h (D.bl.inj e))
  | .int a, .int b => if h : a = b then .isTrue (by rw [h]) else .isFalse (fun e => h (D.int.inj e))
  | .str a, .str b => if h : a = b then .isTrue (by rw [h]) else .isFalse (fun e => h (D.str.inj e))
  | .tup a, .tup b => match D.decs a b with
    | .isTrue h => .isTrue (by rw [h])
    | .isFalse h => .isFalse (fun e => h (D.tup.inj e))
  | .non, .bl _ => .isFalse (fun e => nomatch e)
  | .non, .int _ => .isFalse (fun e => nomatch e)
  | .non, .str _ => .isFalse (fun e => nomatch e)
  | .non, .tup _ => .isFalse (fun e => nomatch e)
  | .bl _, .non => .isFalse (fun e => nomatch e)
  | .bl _, .int _ => .isFalse (fun e => nomatch e)
  | .bl _, .str _ => .isFalse (fun e => nomatch e)
  | .bl _, .tup _ => .isFalse (fun e => nomatch e)
  | .int _, .non => .isFalse (fun e => nomatch e)
  | .int _, .bl _ => .isFalse (fun e => nomatch e)
  | .int _, .str _ => .isFalse (fun e => nomatch e)
  | .int _, .tup _ => .isFalse (fun e => nomatch e)
  | .str _, .non => .isFalse (fun e => nomatch e)
  | .str _, .bl _ => .isFalse (fun e => nomatch e)
  | .str _, .int _ => .isFalse (fun e => nomatch e)
  | .str _, .tup _ => .isFalse (fun e => nomatch e)
  | .tup _, .non => .isFalse (fun e => nomatch e)
  | .tup _, .bl _ => .isFalse (fun e => nomatch e)
  | .tup _, .int _ => .isFalse (fun e => nomatch e)
  | .tup _, .str _ => .isFalse (fun e => nomatch e)
def D.decs : (a b : List D) → Decidable (a = b)
  | [], [] => .isTrue rfl
  | x :: xs, y :: ys => match D.dec x y, D.decs xs ys with
    | .isTrue h, .isTrue k => .isTrue (by rw [h, k])
    | .isFalse h, _ => .isFalse (fun e => h (List.cons.inj e).1)
    | _, .isFalse k => .isFalse (fun e => k (List.cons.inj e).2)
  | [], _ :: _ => .isFalse (fun e => nomatch e)
  | _ :: _, [] => .isFalse (fun e => nomatch e)
end
instance : DecidableEq D := D.dec

/-- a value of the interpreter: data, or a cell of the store -/
inductive Vl where
  | dat (d : D) | ref (n : Nat)
  deriving Inhabited, DecidableEq

/-- what changes: lists (rol: one that is only read), dicts, objects of the class c -/
inductive Cell where
  | lst (xs : List Vl) | rol (xs : List Int) | dct (kvs : List (D × Vl)) | ins (c : Nat) (fs : List (Str × Vl))
  deriving Inhabited

def Vl.refs : Vl → List Nat
  | .dat _ => []
  | .ref n => [n]
def intsV (ns : List Int) : List Vl := ns.map fun i => .dat (.int i)
def vrefs (vs : List Vl) : List Nat := vs.flatMap Vl.refs
def Cell.refs : Cell → List Nat
  | .lst xs => vrefs xs
  | .rol _ => []
  | .dct kvs => kvs.flatMap fun p => p.2.refs
  | .ins _ fs => fs.flatMap fun p => p.2.refs

/-- an exception: its class, its fields -/
structure Exc where
  cls : Str
  fs : List (Str × D)
  deriving Inhabited

/-- the store; the log: which references were written into which cells -/
structure S where
  cells : List Cell
  log : List (Nat × Nat)

inductive R (α : Type) where
  | ok (a : α) (s : S) | exc (e : Exc) (s : S) | bad

/-- every reference in an old cell stood there before, or the log tells it -/
structure LogOk (s s' : S) : Prop where
  len : s.cells.length ≤ s'.cells.length
  sub : ∀ p ∈ s.log, p ∈ s'.log
  cel : ∀ n c', n < s.cells.length → s'.cells[n]? = some c' → ∀ r ∈ c'.refs, (∃ c, s.cells[n]? = some c ∧ r ∈ c.refs) ∨ (n, r) ∈ s'.log
theorem LogOk.refl (s : S) : LogOk s s := ⟨Nat.le_refl _, fun _ h => h, fun n c' _ h r hr => .inl ⟨c', h, hr⟩⟩
theorem LogOk.trans {a b c : S} (x : LogOk a b) (y : LogOk b c) : LogOk a c := by
  refine ⟨Nat.le_trans x.len y.len, fun p h => y.sub p (x.sub p h), fun n c' hn h r hr => ?_⟩
  rcases y.cel n c' (Nat.lt_of_lt_of_le hn x.len) h r hr with ⟨c1, h1, r1⟩ | h1
  · rcases x.cel n c1 hn h1 r r1 with h2 | h2
    · exact .inl h2
    · exact .inr (y.sub _ h2)
  · exact .inr h1

def R.LogOk {α : Type} (s : S) : R α → Prop
  | .ok _ s' => PI.LogOk s s'
  | .exc _ s' => PI.LogOk s s'
  | .bad => True

/-- the interpreter's monad: a function of the store that keeps the log -/
structure M (α : Type) where
  run : S → R α
  lg : ∀ s, (run s).LogOk s

def R.bind {α β : Type} (r : R α) (f : α → S → R β) : R β := match r with
  | .ok a s => f a s
  | .exc e s => .exc e s
  | .bad => .bad
def M.pure {α : Type} (a : α) : M α := ⟨fun s => .ok a s, fun s => LogOk.refl s⟩
def M.bind {α β : Type} (m : M α) (f : α → M β) : M β := ⟨fun s => (m.run s).bind fun a s' => (f a).run s', fun s => by
  have h := m.lg s
  cases e : m.run s with
  | ok a s' =>
    rw [e] at h
    have h2 := (f a).lg s'
    show ((f a).run s').LogOk s
    cases e2 : (f a).run s' with
    | ok b s2 => rw [e2] at h2; exact LogOk.trans h h2
    | exc b s2 => rw [e2] at h2; exact LogOk.trans h h2
    | bad => trivial
  | exc x s' => rw [e] at h; exact h
  | bad => trivial⟩
def M.bad {α : Type} : M α := ⟨fun _ => .bad, fun _ => trivial⟩
def M.throw {α : Type} (e : Exc) : M α := ⟨fun s => .exc e s, fun s => LogOk.refl s⟩
instance : Monad M where
  pure := M.pure
  bind := M.bind
theorem M.ext {α : Type} {a b : M α} (h : ∀ s, a.run s = b.run s) : a = b := by
  obtain ⟨f, hf⟩ := a
  obtain ⟨g, hg⟩ := b
  have e : f = g := funext h
  subst e
  rfl
@[simp] theorem run_pure {α : Type} (a : α) (s : S) : (pure a : M α).run s = .ok a s := rfl
@[simp] theorem run_mpure {α : Type} (a : α) (s : S) : (M.pure a : M α).run s = .ok a s := rfl
@[simp] theorem run_bind {α β : Type} (m : M α) (f : α → M β) (s : S) : (m >>= f).run s = (m.run s).bind fun a s' => (f a).run s' := rfl
@[simp] theorem run_mbind {α β : Type} (m : M α) (f : α → M β) (s : S) : (M.bind m f).run s = (m.run s).bind fun a s' => (f a).run s' := rfl
@[simp] theorem run_bad {α : Type} (s : S) : (M.bad : M α).run s = .bad := rfl
@[simp] theorem run_throw {α : Type} (e : Exc) (s : S) : (M.throw e : M α).run s = .exc e s := rfl
@[simp] theorem bind_ok {α β : Type} (a : α) (s : S) (f : α → S → R β) : (R.ok a s).bind f = f a s := rfl
@[simp] theorem bind_exc {α β : Type} (e : Exc) (s : S) (f : α → S → R β) : (R.exc e s : R α).bind f = .exc e s := rfl
@[simp] theorem bind_bad {α β : Type} (f : α → S → R β) : (R.bad : R α).bind f = .bad := rfl
theorem M.bind_ok' {α β : Type} {m : M α} {f : α → M β} {s s1 : S} {a : α} (h : m.run s = .ok a s1) : (m >>= f).run s = (f a).run s1 := by
  rw [run_bind, h]; rfl

/-- some value, or stop -/
def opt {α : Type} : Option α → M α
  | some a => M.pure a
  | none => M.bad
@[simp] theorem opt_some {α : Type} (a : α) : opt (some a) = M.pure a := rfl
@[simp] theorem opt_none {α : Type} : opt (none : Option α) = M.bad := rfl

/-! ### the store -/
/-- a new cell -/
def alloc (c : Cell) : M Vl := ⟨fun s => .ok (.ref s.cells.length) ⟨s.cells ++ [c], s.log⟩, fun s => by
  refine ⟨by simp, fun p h => h, fun n c' hn h r hr => .inl ⟨c', ?_, hr⟩⟩
  have h' : (s.cells ++ [c])[n]? = some c' := h
  rw [List.getElem?_append_left hn] at h'
  exact h'⟩
/-- a cell is read -/
def get (n : Nat) : M Cell := ⟨fun s => match s.cells[n]? with
  | some c => .ok c s
  | none => .bad, fun s => by
  cases h : s.cells[n]? with
  | some c => simp only [h]; exact LogOk.refl s
  | none => simp only [h]; trivial⟩
/-- a change of a cell: extra tells which references come in -/
structure Upd (β : Type) where
  f : Cell → Option (Cell × β)
  extra : List Nat
  ok : ∀ c c' x, f c = some (c', x) → ∀ r ∈ c'.refs, r ∈ c.refs ∨ r ∈ extra
def updC {β : Type} (n : Nat) (u : Upd β) : M β := ⟨fun s => match s.cells[n]? with
  | some c => match u.f c with
    | some (c', x) => .ok x ⟨s.cells.set n c', u.extra.map (fun r => (n, r)) ++ s.log⟩
    | none => .bad
  | none => .bad, fun s => by
  cases h : s.cells[n]? with
  | none => simp only [h]; trivial
  | some c =>
    cases h2 : u.f c with
    | none => simp only [h, h2]; trivial
    | some p =>
      obtain ⟨c', x⟩ := p
      simp only [h, h2]
      refine ⟨by simp, fun p hp => List.mem_append_right _ hp, fun m c1 hm h1 r hr => ?_⟩
      have h1' : (s.cells.set n c')[m]? = some c1 := h1
      by_cases e : n = m
      · subst e
        rw [List.getElem?_set_self (by exact hm)] at h1'
        cases h1'
        rcases u.ok c c' x h2 r hr with h3 | h3
        · exact .inl ⟨c, h, h3⟩
        · exact .inr (List.mem_append_left _ (List.mem_map.mpr ⟨r, h3, rfl⟩))
      · rw [List.getElem?_set_ne e] at h1'
        exact .inl ⟨c1, h1', hr⟩⟩
@[simp] theorem run_alloc (c : Cell) (s : S) : (alloc c).run s = .ok (.ref s.cells.length) ⟨s.cells ++ [c], s.log⟩ := rfl
theorem run_get {n : Nat} {s : S} {c : Cell} (h : s.cells[n]? = some c) : (get n).run s = .ok c s := by
  show (match s.cells[n]? with
  | some c => R.ok c s
  | none => .bad) = _
  rw [h]
theorem run_upd {β : Type} {n : Nat} {u : Upd β} {s : S} {c c' : Cell} {x : β} (h : s.cells[n]? = some c) (h2 : u.f c = some (c', x)) :
    (updC n u).run s = .ok x ⟨s.cells.set n c', u.extra.map (fun r => (n, r)) ++ s.log⟩ := by
  show (match s.cells[n]? with
  | some c => match u.f c with
    | some (c', x) => R.ok x ⟨s.cells.set n c', u.extra.map (fun r => (n, r)) ++ s.log⟩
    | none => .bad
  | none => .bad) = _
  rw [h]
  simp only [h2]

/-! ### what a part leaves behind is cut off -/
/-- does nothing old lead to what is new -/
def logClear (b : Nat) (l : List (Nat × Nat)) : Bool := l.all fun p => Nat.ble b p.1 || Nat.blt p.2 b
def mrg (b : Nat) (old new : List (Nat × Nat)) : List (Nat × Nat) := new.filter (fun p => Nat.blt p.1 b) ++ old
/-- the end of a part that began at the store s0 -/
def fin (s0 : S) (v : Vl) (s : S) : R Vl := match logClear s0.cells.length s.log with
  | true => match v with
    | .dat d => .ok (.dat d) ⟨s.cells.take s0.cells.length, mrg s0.cells.length s0.log s.log⟩
    | .ref r => match Nat.blt r s0.cells.length with
      | true => .ok (.ref r) ⟨s.cells.take s0.cells.length, mrg s0.cells.length s0.log s.log⟩
      | false => match s.cells[r]? with
        | some c => match c.refs.all fun q => Nat.blt q s0.cells.length with
          | true => .ok (.ref s0.cells.length) ⟨s.cells.take s0.cells.length ++ [c], mrg s0.cells.length s0.log s.log⟩
          | false => .ok v ⟨s.cells, s.log ++ s0.log⟩
        | none => .bad
  | false => .ok v ⟨s.cells, s.log ++ s0.log⟩
def finX (s0 : S) (e : Exc) (s : S) : R Vl := match logClear s0.cells.length s.log with
  | true => .exc e ⟨s.cells.take s0.cells.length, mrg s0.cells.length s0.log s.log⟩
  | false => .exc e ⟨s.cells, s.log ++ s0.log⟩

theorem logOk_whole {s0 s : S} (h : LogOk ⟨s0.cells, []⟩ s) : LogOk s0 ⟨s.cells, s.log ++ s0.log⟩ :=
  ⟨h.len, fun p hp => List.mem_append_right _ hp, fun n c' hn e r hr => (h.cel n c' hn e r hr).imp id fun z => List.mem_append_left _ z⟩
theorem logOk_cut {s0 s : S} (h : LogOk ⟨s0.cells, []⟩ s) (l : List Cell) : LogOk s0 ⟨s.cells.take s0.cells.length ++ l, mrg s0.cells.length s0.log s.log⟩ := by
  have hl : s0.cells.length ≤ s.cells.length := h.len
  have hlen : (s.cells.take s0.cells.length).length = s0.cells.length := by rw [List.length_take]; omega
  refine ⟨by rw [List.length_append, hlen]; omega, fun p hp => List.mem_append_right _ hp, fun n c' hn e r hr => ?_⟩
  have e' : (s.cells.take s0.cells.length ++ l)[n]? = some c' := e
  rw [List.getElem?_append_left (by omega), List.getElem?_take_of_lt hn] at e'
  rcases h.cel n c' hn e' r hr with z | z
  · exact .inl z
  · refine .inr (List.mem_append_left _ (List.mem_filter.mpr ⟨z, ?_⟩))
    exact Nat.ble_eq_true_of_le hn
theorem logOk_cut0 {s0 s : S} (h : LogOk ⟨s0.cells, []⟩ s) : LogOk s0 ⟨s.cells.take s0.cells.length, mrg s0.cells.length s0.log s.log⟩ := by
  have := logOk_cut h []
  rw [List.append_nil] at this
  exact this
/-- a part that is closed in itself: what it made and nobody can reach is gone behind it; a fresh list (dict) comes first -/
def frame (m : M Vl) : M Vl := ⟨fun s0 => match m.run ⟨s0.cells, []⟩ with
  | .ok v s => fin s0 v s
  | .exc e s => finX s0 e s
  | .bad => .bad, fun s0 => by
  have h := m.lg ⟨s0.cells, []⟩
  cases e : m.run ⟨s0.cells, []⟩ with
  | bad => simp only []; trivial
  | exc x s =>
    rw [e] at h
    simp only [finX]
    cases logClear s0.cells.length s.log with
    | true => exact logOk_cut0 h
    | false => exact logOk_whole h
  | ok v s =>
    rw [e] at h
    simp only [fin]
    cases logClear s0.cells.length s.log with
    | false => exact logOk_whole h
    | true =>
      cases v with
      | dat d => exact logOk_cut0 h
      | ref r =>
        simp only []
        cases Nat.blt r s0.cells.length with
        | true => exact logOk_cut0 h
        | false =>
          simp only []
          cases s.cells[r]? with
          | none => trivial
          | some c =>
            simp only []
            cases c.refs.all fun q => Nat.blt q s0.cells.length with
            | true => exact logOk_cut h [c]
            | false => exact logOk_whole h⟩
theorem run_frame (m : M Vl) (s0 : S) : (frame m).run s0 = (match m.run ⟨s0.cells, []⟩ with
  | .ok v s => fin s0 v s
  | .exc e s => finX s0 e s
  | .bad => .bad) := rfl
end PI
/-! PI1: the interpreter: expressions, statements. -/
namespace PI
open PySem

inductive Bop where | add | sub | mul | fdiv | mod | pow
  deriving DecidableEq
inductive Cop where | eq | ne | lt | le | gt | ge | is | isnot | isin | notin
  deriving DecidableEq
inductive Bi where | len | sum | abs | int | max | min | tup | lst | srt | all | any | str | set | range | enum | zip
  deriving DecidableEq
inductive Bm where | append | pop | extend | get | items | index
  deriving DecidableEq
/-- what a for walks: a range (of one, two, three parts), a value, .. -/
inductive ItK where | rng | val | enum | zip | items
  deriving DecidableEq

/-- targets of a for, a comprehension, an unpacking -/
inductive Tg where
  | nm (i : Nat) | tp (ts : List Tg)

inductive Ex where
  | var (i : Nat) | lit (d : D) | glb (x : Str) (d : D)
  | tup (es : List Ex) | lst (es : List Ex) | dct (ks vs : List Ex)
  | bin (o : Bop) (a b : Ex) | neg (a : Ex) | cmp (o : Cop) (a b : Ex) | chn (o o' : Cop) (a b c : Ex)
  | and (a b : Ex) | or (a b : Ex) | not (a : Ex) | ite (c a b : Ex)
  | ix (a b : Ex) | sl (a : Ex) (lo hi : List Ex) | rev (a : Ex)
  | att (e : Ex) (f : Str)
  | call (f : Nat) (es : List Ex) | new (c : Nat) (es : List Ex) | meth (e : Ex) (m : Str) (es : List Ex)
  | bi (b : Bi) (es : List Ex) | isi (e : Ex) (t : Str) | bm (b : Bm) (e : Ex) (es : List Ex)
  | lc (elt : Ex) (tg : Tg) (k : ItK) (args ifs : List Ex) (own : List Nat)

inductive Sm where
  | asg (t : Tg) (e : Ex) | par (is : List Nat) (es : List Ex) | aug (i : Nat) (o : Bop) (e : Ex)
  | iff (c : Ex) (a b : List Sm) | whl (c : Ex) (b : List Sm) | fr (t : Tg) (k : ItK) (args : List Ex) (b : List Sm)
  | ret (e : Ex) | exp (e : Ex) | pass | brk | cnt

abbrev Env := List (Option Vl)
inductive Fl where | nx | bk | ct | rt (v : Vl) | rs (e : Exc)

/-! ### data -/
def D.isInt : D → Option Int
  | .int i => some i
  | _ => none
def Vl.int? : Vl → Option Int
  | .dat (.int i) => some i
  | _ => none
def Vl.dat? : Vl → Option D
  | .dat d => some d
  | _ => none
/-- all are data -/
def dats : List Vl → Option (List D)
  | [] => some []
  | .dat d :: vs => (dats vs).map (d :: ·)
  | .ref _ :: _ => none
@[simp] theorem dats_map (ds : List D) : dats (ds.map .dat) = some ds := by
  induction ds with
  | nil => rfl
  | cons d ds ih => show (dats (ds.map .dat)).map (d :: ·) = _; rw [ih]; rfl
@[simp] theorem dats_nil : dats [] = some [] := rfl
@[simp] theorem dats_cons (d : D) (vs : List Vl) : dats (.dat d :: vs) = (dats vs).map (d :: ·) := rfl

def M.of {α : Type} (o : Option α) : M α := match o with
  | some a => M.pure a
  | none => M.bad
def chk (b : Bool) : M Unit := match b with
  | true => M.pure ()
  | false => M.bad
@[simp] theorem chk_true : chk true = M.pure () := rfl
/-- one of two -/
def bc {α : Type} (k : Bool) (a b : M α) : M α := match k with
  | true => a
  | false => b
/-- under a condition -/
def M.iff (p : Prop) [hd : Decidable p] {α : Type} (m : M α) : M α := if p then m else M.bad
theorem M.iff_pos {p : Prop} [Decidable p] {α : Type} {m : M α} (h : p) : M.iff p m = m := if_pos h
theorem M.iff_neg {p : Prop} [Decidable p] {α : Type} {m : M α} (h : ¬ p) : M.iff p m = M.bad := if_neg h

/-! ### operators -/
def binI (o : Bop) (i j : Int) : M Vl := match o with
  | .add => M.pure (.dat (.int (i + j)))
  | .sub => M.pure (.dat (.int (i - j)))
  | .mul => M.iff ((-(2 ^ 64) < i ∧ i < 2 ^ 64) ∨ (-(2 ^ 64) < j ∧ j < 2 ^ 64)) (M.pure (.dat (.int (i * j))))
  | .fdiv => M.iff (0 < j ∧ j < 1073741824) (M.pure (.dat (.int (i / j))))
  | .mod => M.iff (0 < j) (M.pure (.dat (.int (i % j))))
  | .pow => M.iff (0 ≤ j ∧ j ≤ 1000000 ∧ i.natAbs < 2 ^ 64) (M.pure (.dat (.int (i ^ j.toNat))))

/-- data and lists of data, as the library's PyData (n: how deep lists may stand in lists) -/
def pyV (cs : List Cell) : Nat → Vl → Option PyData
  | _, .dat d => some d.py
  | 0, .ref _ => none
  | n + 1, .ref r => match cs[r]? with
    | some (.lst xs) => (xs.mapM (pyV cs n)).map .list
    | some (.rol xs) => some (.list (xs.map .int))
    | _ => none
def pyM (v : Vl) : M PyData := ⟨fun s => match pyV s.cells 4 v with
  | some p => .ok p s
  | none => .bad, fun s => by
  cases h : pyV s.cells 4 v with
  | some p => simp only [h]; exact LogOk.refl s
  | none => simp only [h]; trivial⟩
/-- ==, of data and of lists -/
def eqM (a b : Vl) : M Bool := match a, b with
  | .dat (.int i), .dat (.int j) => M.pure (decide (i = j))
  | .dat (.str i), .dat (.str j) => M.pure (decide (i = j))
  | .dat (.bl i), .dat (.bl j) => M.pure (decide (i = j))
  | .dat .non, .dat .non => M.pure true
  | .dat .non, .dat (.int _) => M.pure false
  | .dat (.int _), .dat .non => M.pure false
  | a, b => do
    let p ← pyM a
    let q ← pyM b
    chk (SeqAt.shaped p && SeqAt.shaped q)
    M.pure (PyData.eqv p q)
def seqM (v : Vl) : M (List Vl) := match v with
  | .dat (.tup ds) => M.pure (ds.map .dat)
  | .dat _ => M.bad
  | .ref n => do
    match ← get n with
    | .lst xs => M.pure xs
    | .rol xs => M.pure (intsV xs)
    | _ => M.bad
def D.flat : D → Bool
  | .tup _ => false
  | _ => true
/-- == of flat data -/
def D.eqf : D → D → Bool
  | .non, .non => true
  | .bl a, .bl b => a == b
  | .bl a, .int j => (if a then 1 else 0) == j
  | .int i, .bl b => i == (if b then 1 else 0)
  | .int i, .int j => i == j
  | .str x, .str y => x == y
  | _, _ => false
def strIn (i j : Str) : Bool := !(Builtin.Str.occurrences j i 0 j.length 1).isEmpty
/-- a key's place in a dict -/
def look (kvs : List (D × Vl)) (k : D) : Option Vl := (kvs.find? fun p => decide (p.1 = k)).map (·.2)
def inM (a b : Vl) : M Bool := match a, b with
  | .dat (.str i), .dat (.str j) => M.pure (strIn i j)
  | .dat a, .dat (.tup ds) => M.iff (a.flat = true ∧ (ds.all D.flat) = true) (M.pure (ds.any fun z => z.eqf a))
  | _, .dat _ => M.bad
  | a, .ref n => do
    match ← get n with
    | .dct kvs => match a with
      | .dat k => M.pure (look kvs k).isSome
      | _ => M.bad
    | .ins _ _ => M.bad
    | _ => do
      let p ← pyM a
      let q ← pyM (.ref n)
      chk (SeqAt.shaped p && SeqAt.shaped q)
      match q with
      | .list zs => M.pure (zs.any fun z => PyData.eqv z p)
      | _ => M.bad
/-- < of tuples, item by item -/
def ltI (f : Int → Int → Bool) (a b : Vl) : M Bool := match a, b with
  | .dat (.int i), .dat (.int j) => M.pure (f i j)
  | _, _ => M.bad
def isM (a b : Vl) : M Bool := match a, b with
  | .dat .non, .dat .non => M.pure true
  | .dat _, .dat .non => M.pure false
  | .ref _, .dat .non => M.pure false
  | .dat (.bl i), .dat (.bl j) => M.pure (decide (i = j))
  | _, _ => M.bad
def cmpM (o : Cop) (a b : Vl) : M Bool := match o with
  | .eq => eqM a b
  | .ne => do M.pure (!(← eqM a b))
  | .lt => ltI (fun i j => decide (i < j)) a b
  | .le => ltI (fun i j => decide (i ≤ j)) a b
  | .gt => ltI (fun i j => decide (j < i)) a b
  | .ge => ltI (fun i j => decide (j ≤ i)) a b
  | .is => isM a b
  | .isnot => do M.pure (!(← isM a b))
  | .isin => inM a b
  | .notin => do M.pure (!(← inM a b))
def binM (o : Bop) (a b : Vl) : M Vl := match a, b with
  | .dat (.int i), .dat (.int j) => binI o i j
  | .dat (.str i), .dat (.str j) => match o with
    | .add => M.iff (i.length + j.length ≤ sizeLine) (M.pure (.dat (.str (i ++ j))))
    | _ => M.bad
  | .dat (.tup i), .dat (.tup j) => match o with
    | .add => M.iff (i.length + j.length ≤ sizeLine) (M.pure (.dat (.tup (i ++ j))))
    | _ => M.bad
  | .ref n, .ref m => match o with
    | .add => M.bind (get n) fun c => M.bind (get m) fun d => match c, d with
      | .lst xs, .lst ys => M.iff (xs.length + ys.length ≤ sizeLine) (alloc (.lst (xs ++ ys)))
      | _, _ => M.bad
    | _ => M.bad
  | _, _ => M.bad
/-- op= -/
def iopM (o : Bop) (a b : Vl) : M Vl := match o with
  | .add => match a, b with
    | .dat (.int i), .dat (.int j) => M.pure (.dat (.int (i + j)))
    | .dat (.str i), .dat (.str j) => M.iff (i.length + j.length ≤ sizeLine) (M.pure (.dat (.str (i ++ j))))
    | _, _ => M.bad
  | .sub => match a, b with
    | .dat (.int i), .dat (.int j) => M.pure (.dat (.int (i - j)))
    | _, _ => M.bad
  | _ => M.bad
/-- truth of a value -/
def truM (v : Vl) : M Bool := match v with
  | .dat .non => M.pure false
  | .dat (.bl b) => M.pure b
  | .dat (.int i) => M.pure (i != 0)
  | .dat (.str s) => M.iff (s.length ≤ sizeLine) (M.pure ((s.length : Int) != 0))
  | .dat (.tup l) => M.pure (!l.isEmpty)
  | .ref n => do
    match ← get n with
    | .lst xs => M.pure (!xs.isEmpty)
    | .rol xs => M.pure (!xs.isEmpty)
    | _ => M.bad
def tupM (vs : List Vl) : M Vl := match dats vs with
  | some ds => M.iff (ds.length ≤ sizeLine) (M.pure (.dat (.tup ds)))
  | none => M.bad
def lstM (vs : List Vl) : M Vl := M.iff (vs.length ≤ sizeLine) (alloc (.lst vs))
def ixM (a b : Vl) : M Vl := match b with
  | .dat (.int i) => match a with
    | .dat (.str s) => M.iff (s.length ≤ sizeLine) (do
      let c ← M.of (L2.atI s.cps.toList i)
      M.pure (.dat (.str ⟨#[c]⟩)))
    | .dat (.tup ds) => do
      let d ← M.of (L2.atI ds i)
      M.pure (.dat d)
    | .dat _ => M.bad
    | .ref n => do
      match ← get n with
      | .lst xs => M.of (L2.atI xs i)
      | .rol xs => M.of (L2.atI (intsV xs) i)
      | .dct kvs => M.of (look kvs (.int i))
      | _ => M.bad
  | .dat k => match a with
    | .ref n => do
      match ← get n with
      | .dct kvs => M.of (look kvs k)
      | _ => M.bad
    | _ => M.bad
  | .ref _ => M.bad
def bound (v : List Vl) : M (Option Int) := match v with
  | [] => M.pure none
  | [.dat (.int i)] => M.pure (some i)
  | _ => M.bad
def cutL {α : Type} (xs : List α) (lo hi : Option Int) : List α := (xs.drop (HT.sIx xs.length 0 lo)).take (HT.sIx xs.length xs.length hi - HT.sIx xs.length 0 lo)
def slO (a : Vl) (l h : Option Int) : M Vl := match a with
  | .dat (.tup ds) => M.pure (.dat (.tup (cutL ds l h)))
  | .dat (.str s) => M.iff (s.length ≤ sizeLine) (M.pure (.dat (.str (L2.cutS s l h))))
  | .dat _ => M.bad
  | .ref n => M.bind (get n) fun c => match c with
    | .lst xs => alloc (.lst (cutL xs l h))
    | .rol xs => alloc (.lst (cutL (intsV xs) l h))
    | _ => M.bad
def revM (a : Vl) : M Vl := match a with
  | .dat (.tup ds) => M.pure (.dat (.tup ds.reverse))
  | .dat _ => M.bad
  | .ref n => do
    match ← get n with
    | .lst xs => alloc (.lst xs.reverse)
    | _ => M.bad
def intsOf : List Vl → Option (List Int)
  | [] => some []
  | .dat (.int i) :: vs => (intsOf vs).map (i :: ·)
  | _ => none
def blsOf : List Vl → Option (List Bool)
  | [] => some []
  | .dat (.bl i) :: vs => (blsOf vs).map (i :: ·)
  | _ => none
def lenM (v : Vl) : M Vl := match v with
  | .dat (.str s) => M.iff (s.length ≤ sizeLine) (M.pure (.dat (.int s.length)))
  | .dat (.tup l) => M.pure (.dat (.int l.length))
  | .dat _ => M.bad
  | .ref n => do
    match ← get n with
    | .lst xs => M.pure (.dat (.int xs.length))
    | .rol xs => M.pure (.dat (.int xs.length))
    | .dct kvs => M.pure (.dat (.int kvs.length))
    | .ins _ _ => M.bad
def i1 (vs : List Vl) : Option Int := match vs with
  | [v] => v.int?
  | _ => none
def i2 (vs : List Vl) : Option (Int × Int) := match vs with
  | [v, v'] => match v.int?, v'.int? with
    | some i, some j => some (i, j)
    | _, _ => none
  | _ => none
def v1 (vs : List Vl) : Option Vl := match vs with
  | [v] => some v
  | _ => none
def intB (v : Vl) : M Vl := match v with
  | .dat (.int i) => M.pure (.dat (.int i))
  | .dat (.bl b) => M.pure (.dat (.int (if b then 1 else 0)))
  | _ => M.bad
def sumB (v : Vl) : M Vl := M.bind (seqM v) fun xs => M.bind (M.of (intsOf xs)) fun is => M.pure (.dat (.int is.sum))
def isRef : Vl → Bool
  | .ref _ => true
  | _ => false
def allB (f : List Bool → Bool) (v : Vl) : M Vl := match isRef v with
  | true => M.bind (seqM v) fun xs => M.bind (M.of (blsOf xs)) fun bs => M.pure (.dat (.bl (f bs)))
  | false => M.bad
def tupB (v : Vl) : M Vl := M.bind (seqM v) fun xs => M.bind (M.of (dats xs)) fun ds => M.pure (.dat (.tup ds))
def lstB (v : Vl) : M Vl := M.bind (seqM v) fun xs => alloc (.lst xs)
def biM (b : Bi) (vs : List Vl) : M Vl := match b with
  | .len => M.bind (M.of (v1 vs)) lenM
  | .abs => M.bind (M.of (i1 vs)) fun i => M.pure (.dat (.int (if i < 0 then -i else i)))
  | .int => M.bind (M.of (v1 vs)) intB
  | .max => M.bind (M.of (i2 vs)) fun p => M.pure (.dat (.int (if p.2 > p.1 then p.2 else p.1)))
  | .min => M.bind (M.of (i2 vs)) fun p => M.pure (.dat (.int (if p.2 < p.1 then p.2 else p.1)))
  | .sum => M.bind (M.of (v1 vs)) sumB
  | .all => M.bind (M.of (v1 vs)) (allB fun bs => bs.all id)
  | .any => M.bind (M.of (v1 vs)) (allB fun bs => bs.any id)
  | .tup => M.bind (M.of (v1 vs)) tupB
  | .lst => M.bind (M.of (v1 vs)) lstB
  | _ => M.bad
/-- the name of a value's type -/
def tyM (v : Vl) : M Str := match v with
  | .dat .non => M.pure "NoneType"
  | .dat (.bl _) => M.pure "bool"
  | .dat (.int _) => M.pure "int"
  | .dat (.str _) => M.pure "str"
  | .dat (.tup _) => M.pure "tuple"
  | .ref n => M.bind (get n) fun c => match c with
    | .lst _ => M.pure "list"
    | _ => M.bad
/-- is the type a below the type t -/
def tyIs (a t : Str) : Bool := decide (a = t) || (decide (a = "bool") && decide (t = "int"))
def isiM (v : Vl) (t : Str) : M Bool := M.bind (tyM v) fun a => M.pure (tyIs a t)
def uApp (v : Vl) : Upd Vl where
  f := fun c => match c with
    | .lst xs => if xs.length < sizeLine then some (.lst (xs ++ [v]), .dat .non) else none
    | _ => none
  extra := v.refs
  ok := fun c c' x h r hr => by
    cases c with
    | lst xs =>
      simp only [] at h
      split at h
      · cases h
        have hr' : r ∈ vrefs (xs ++ [v]) := hr
        unfold vrefs at hr'
        rw [List.flatMap_append, List.mem_append] at hr'
        rcases hr' with z | z
        · exact .inl z
        · exact .inr (by simpa using z)
      · cases h
    | rol xs => cases h
    | dct xs => cases h
    | ins a b => cases h
/-- the receiver of a built-in's method is of its kind -/
def kindM (b : Bm) (v : Vl) : M Unit := match b, v with
  | .append, .ref n => M.bind (get n) fun c => match c with
    | .lst _ => M.pure ()
    | _ => M.bad
  | _, _ => M.bad
def bmM (b : Bm) (v : Vl) (vs : List Vl) : M Vl := match b, v, vs with
  | .append, .ref n, [x] => updC n (uApp x)
  | _, _, _ => M.bad

/-! ### programs -/
structure ClsI where
  name : Str
  init : Option Nat
  meths : List (Str × Nat)
structure ExcI where
  name : Str
  fld : Option Str
structure Prg where
  cls : List ClsI
  exc : List ExcI
structure FnI where
  np : Nat
  nl : Nat
  body : List Sm

def slot (env : Env) (i : Nat) : M Vl := match env[i]? with
  | some (some v) => M.pure v
  | _ => M.bad
/-- no exception comes out -/
def noX {α : Type} (m : M α) : M α := ⟨fun s => match m.run s with
  | .ok a s' => .ok a s'
  | _ => .bad, fun s => by
  have h := m.lg s
  cases e : m.run s with
  | ok a s' => rw [e] at h; exact h
  | exc x s' => trivial
  | bad => trivial⟩
/-- an exception becomes a value -/
def tryM {α : Type} (m : M α) : M (Except Exc α) := ⟨fun s => match m.run s with
  | .ok a s' => .ok (.ok a) s'
  | .exc e s' => .ok (.error e) s'
  | .bad => .bad, fun s => by
  have h := m.lg s
  cases e : m.run s with
  | ok a s' => rw [e] at h; exact h
  | exc x s' => rw [e] at h; exact h
  | bad => trivial⟩
/-- the items a for walks; the list that must stay meanwhile -/
def itemsM (k : ItK) (vs : List Vl) : M (List Vl × Option Nat) := match k, vs with
  | .rng, [.dat (.int j)] => M.iff (-(2 ^ 62) ≤ j ∧ j ≤ 16777216) (M.pure ((List.range j.toNat).map fun (i : Nat) => Vl.dat (.int i), none))
  | .rng, [.dat (.int i), .dat (.int j)] => M.iff ((-(2 ^ 62) ≤ i ∧ i < 2 ^ 62) ∧ (-(2 ^ 62) ≤ j ∧ j < 2 ^ 62) ∧ j - i ≤ 16777216) (M.pure ((List.range (j - i).toNat).map fun (k : Nat) => Vl.dat (.int (i + k)), none))
  | .rng, _ => M.bad
  | .val, [.dat (.tup ds)] => M.pure (ds.map .dat, none)
  | .val, [.ref n] => do
    match ← get n with
    | .lst xs => M.pure (xs, some n)
    | .rol xs => M.pure (intsV xs, some n)
    | _ => M.bad
  | _, _ => M.bad
/-- the walked list is as it was -/
def stays (xs : List Vl) (src : Option Nat) : M Unit := match src with
  | none => M.pure ()
  | some n => do
    match ← get n with
    | .lst ys => M.iff (ys = xs) (M.pure ())
    | .rol ys => M.iff (intsV ys = xs) (M.pure ())
    | _ => M.bad
mutual
def bindTg : Tg → Vl → Env → M Env
  | .nm i, v, env => M.pure (env.set i (some v))
  | .tp ts, v, env => match v with
    | .dat (.tup ds) => M.iff (ds.length = ts.length) (bindTgs ts ds env)
    | _ => M.bad
def bindTgs : List Tg → List D → Env → M Env
  | t :: ts, d :: ds, env => M.bind (bindTg t (.dat d) env) fun env' => bindTgs ts ds env'
  | [], [], env => M.pure env
  | _, _, _ => M.bad
end
def wipeE (env : Env) : List Nat → Env
  | [] => env
  | v :: vs => (wipeE env vs).set v none
/-- a value put behind a list -/
def appTo (o : Vl) : Option Vl → M Unit
  | none => M.pure ()
  | some y => match o with
    | .ref n => M.bind (updC n (uApp y)) fun _ => M.pure ()
    | _ => M.bad
/-- a comprehension's turns: o is the new list -/
def lcGo (xs : List Vl) (src : Option Nat) (f : Vl → M (Option Vl)) (o : Vl) : List Vl → M Unit
  | [] => M.bind (stays xs src) fun _ => M.pure ()
  | v :: vs => M.bind (stays xs src) fun _ => M.bind (f v) fun y => M.bind (appTo o y) fun _ => lcGo xs src f o vs
def setAll : List Nat → List Vl → Env → Env
  | i :: is, v :: vs, env => setAll is vs (env.set i (some v))
  | _, _, env => env
section
variable (P : Prg) (G : Nat → List Vl → M Vl)
mutual
def evalE : Ex → Env → M Vl
  | .var i, env => slot env i
  | .lit d, _ => M.pure (.dat d)
  | .glb _ d, _ => M.pure (.dat d)
  | .tup es, env => M.bind (evalEs es env) tupM
  | .lst es, env => M.bind (evalEs es env) lstM
  | .dct _ _, _ => M.bad
  | .bin o a b, env => M.bind (evalE a env) fun x => M.bind (evalE b env) fun y => binM o x y
  | .neg a, env => M.bind (evalE a env) fun x => match x with
    | .dat (.int i) => M.pure (.dat (.int (-i)))
    | _ => M.bad
  | .cmp o a b, env => M.bind (evalE a env) fun x => M.bind (evalE b env) fun y => M.bind (cmpM o x y) fun k => M.pure (.dat (.bl k))
  | .chn o o' a b c, env => M.bind (evalE a env) fun x => M.bind (evalE b env) fun y => M.bind (cmpM o x y) fun k => bc k (M.bind (evalE c env) fun z => M.bind (cmpM o' y z) fun k' => M.pure (.dat (.bl k'))) (M.pure (.dat (.bl false)))
  | .and a b, env => M.bind (evalE a env) fun x => M.bind (truM x) fun k => bc k (evalE b env) (M.pure x)
  | .or a b, env => M.bind (evalE a env) fun x => M.bind (truM x) fun k => bc k (M.pure x) (evalE b env)
  | .not a, env => M.bind (evalE a env) fun x => M.bind (truM x) fun k => M.pure (.dat (.bl (!k)))
  | .ite c a b, env => M.bind (evalE c env) fun x => M.bind (truM x) fun k => bc k (evalE a env) (evalE b env)
  | .ix a b, env => M.bind (evalE a env) fun x => M.bind (evalE b env) fun y => ixM x y
  | .sl a lo hi, env => M.bind (evalE a env) fun x => M.bind (M.bind (evalEs lo env) bound) fun l => M.bind (M.bind (evalEs hi env) bound) fun h => slO x l h
  | .rev a, env => M.bind (evalE a env) revM
  | .att e f, env => M.bind (evalE e env) fun x => match x with
    | .ref n => M.bind (get n) fun c => match c with
      | .ins _ fs => M.of (fs.lookup f)
      | _ => M.bad
    | _ => M.bad
  | .call f es, env => M.bind (evalEs es env) fun vs => G f vs
  | .new c es, env => M.bind (evalEs es env) fun vs => match P.cls[c]? with
    | some ⟨_, some fi, _⟩ => M.bind (alloc (.ins c [])) fun o => M.bind (G fi (o :: vs)) fun r => match r with
      | .dat .non => M.pure o
      | _ => M.bad
    | _ => M.bad
  | .meth e m es, env => M.bind (evalE e env) fun x => match x with
    | .ref n => M.bind (get n) fun c => match c with
      | .ins c fs => match P.cls[c]? with
        | some ⟨_, _, ms⟩ => match ms.lookup m, fs.lookup m with
          | some fi, none => M.bind (evalEs es env) fun vs => G fi (.ref n :: vs)
          | _, _ => M.bad
        | none => M.bad
      | _ => M.bad
    | _ => M.bad
  | .bi b es, env => M.bind (evalEs es env) fun vs => biM b vs
  | .isi e t, env => M.bind (evalE e env) fun x => M.bind (isiM x t) fun k => M.pure (.dat (.bl k))
  | .bm b e es, env => M.bind (evalE e env) fun x => M.bind (kindM b x) fun _ => M.bind (evalEs es env) fun vs => bmM b x vs
  | .lc elt tg k args ifs own, env => M.bind (evalEs args env) fun vs => M.bind (itemsM k vs) fun p => M.bind (alloc (.lst [])) fun o =>
      M.bind (noX (lcGo p.1 p.2 (fun v => M.bind (bindTg tg v (wipeE env own)) fun env1 => M.bind (evalIfs ifs env1) fun b => bc b (M.bind (evalE elt env1) fun y => M.pure (some y)) (M.pure none)) o p.1)) fun _ => M.pure o
def evalEs : List Ex → Env → M (List Vl)
  | [], _ => M.pure []
  | e :: es, env => M.bind (evalE e env) fun v => M.bind (evalEs es env) fun vs => M.pure (v :: vs)
def evalIfs : List Ex → Env → M Bool
  | [], _ => M.pure true
  | e :: es, env => M.bind (evalE e env) fun x => M.bind (truM x) fun k => bc k (evalIfs es env) (M.pure false)
end
/-- a test, its leavings cut off -/
def testM (c : Ex) (env : Env) : M Bool := M.bind (frame (M.bind (evalE P G c env) fun x => M.bind (truM x) fun k => M.pure (.dat (.bl k)))) fun v => match v with
  | .dat (.bl b) => M.pure b
  | _ => M.bad
/-- a part of a statement: an exception leaves the statement -/
def lift {α : Type} (m : M α) (env : Env) (k : α → M (Env × Fl)) : M (Env × Fl) := M.bind (tryM m) fun r => match r with
  | .ok a => k a
  | .error e => M.pure (env, .rs e)
/-- turns of a for -/
def forGo (xs : List Vl) (src : Option Nat) (f : Vl → Env → M (Env × Fl)) : List Vl → Env → M (Env × Fl)
  | [], env => M.bind (stays xs src) fun _ => M.pure (env, .nx)
  | v :: vs, env => M.bind (stays xs src) fun _ => M.bind (f v env) fun r => match r.2 with
    | .nx => forGo xs src f vs r.1
    | .ct => forGo xs src f vs r.1
    | .bk => M.pure (r.1, .nx)
    | fl => M.pure (r.1, fl)
/-- n turns of a while; none: not at its end yet -/
def whN (t : Env → M Bool) (b : Env → M (Env × Fl)) : Nat → Env → M (Option (Env × Fl))
  | 0, _ => M.pure none
  | n + 1, env => M.bind (tryM (t env)) fun r => match r with
    | .error e => M.pure (some (env, .rs e))
    | .ok false => M.pure (some (env, .nx))
    | .ok true => M.bind (b env) fun r => match r.2 with
      | .nx => whN t b n r.1
      | .ct => whN t b n r.1
      | .bk => M.pure (some (r.1, .nx))
      | fl => M.pure (some (r.1, fl))
open Classical in
/-- a while: as many turns as it takes -/
noncomputable def wh (t : Env → M Bool) (b : Env → M (Env × Fl)) (env : Env) : M (Env × Fl) :=
  ⟨fun s => if h : ∃ n x s', (whN t b n env).run s = .ok (some x) s' then .ok (choose (choose_spec h)) (choose (choose_spec (choose_spec h))) else .bad, fun s => by
    by_cases h : ∃ n x s', (whN t b n env).run s = .ok (some x) s'
    · have e := choose_spec (choose_spec (choose_spec h))
      have l := (whN t b (choose h) env).lg s
      rw [e] at l
      simp only [dif_pos h]
      exact l
    · simp only [dif_neg h]
      trivial⟩
mutual
noncomputable def execS : Sm → Env → M (Env × Fl)
  | .asg t e, env => lift (frame (evalE P G e env)) env fun v => M.bind (bindTg t v env) fun env' => M.pure (env', .nx)
  | .par is es, env => lift (evalEs P G es env) env fun vs => M.iff (vs.length = is.length) (M.pure (setAll is vs env, .nx))
  | .aug i o e, env => lift (frame (M.bind (slot env i) fun x => M.bind (evalE P G e env) fun y => iopM o x y)) env fun v => M.pure (env.set i (some v), .nx)
  | .iff c a b, env => lift (testM P G c env) env fun k => bc k (execSs a env) (execSs b env)
  | .whl c b, env => wh (testM P G c) (fun env => execSs b env) env
  | .fr t k args b, env => lift (M.bind (evalEs P G args env) fun vs => itemsM k vs) env fun p =>
      forGo p.1 p.2 (fun v env => M.bind (bindTg t v env) fun env' => execSs b env') p.1 env
  | .ret e, env => lift (frame (evalE P G e env)) env fun v => M.pure (env, .rt v)
  | .exp e, env => lift (frame (evalE P G e env)) env fun _ => M.pure (env, .nx)
  | .pass, env => M.pure (env, .nx)
  | .brk, env => M.pure (env, .bk)
  | .cnt, env => M.pure (env, .ct)
noncomputable def execSs : List Sm → Env → M (Env × Fl)
  | [], env => M.pure (env, .nx)
  | s :: ss, env => M.bind (execS s env) fun r => match r.2 with
    | .nx => execSs ss r.1
    | fl => M.pure (r.1, fl)
end
/-- what a def's body gives back -/
def ended (r : Env × Fl) : M Vl := match r.2 with
  | .rt v => M.pure v
  | .nx => M.pure (.dat .non)
  | .rs e => M.throw e
  | _ => M.bad
end
/-- a def called, to the depth n -/
noncomputable def callF (P : Prg) (fns : List FnI) : Nat → Nat → List Vl → M Vl
  | 0, _, _ => M.bad
  | n + 1, f, vs => match fns[f]? with
    | some F => M.iff (vs.length = F.np) (frame (M.bind (execSs P (callF P fns n) F.body (vs.map some ++ List.replicate (F.nl - F.np) none)) ended))
    | none => M.bad
end PI
/-! PI2: how the interpreter's store lies in the abstract heap. -/
namespace PI
open PySem PySem.Spec L2

/-! ### paired lists -/
section
variable {α β γ δ : Type} {F : α → β → Prop}
theorem pr_append : ∀ {a : List α} {b : List β} {c : List α} {d : List β}, Paired F a b → Paired F c d → Paired F (a ++ c) (b ++ d)
  | _, _, _, _, .nil, h => h
  | _, _, _, _, .cons r t, h => .cons r (pr_append t h)
theorem pr_get : ∀ {a : List α} {b : List β} {i : Nat} {y : β}, Paired F a b → b[i]? = some y → ∃ x, a[i]? = some x ∧ F x y
  | _, _, _, _, .nil, e => by simp at e
  | _, _, 0, _, .cons r t, e => by simp at e; subst e; exact ⟨_, rfl, r⟩
  | _, _, i + 1, y, .cons r t, e => by
    obtain ⟨x, h1, h2⟩ := pr_get (i := i) (y := y) t (by simpa using e)
    exact ⟨x, by simpa using h1, h2⟩
theorem pr_getl : ∀ {a : List α} {b : List β} {i : Nat} {x : α}, Paired F a b → a[i]? = some x → ∃ y, b[i]? = some y ∧ F x y
  | _, _, _, _, .nil, e => by simp at e
  | _, _, 0, _, .cons r t, e => by simp at e; subst e; exact ⟨_, rfl, r⟩
  | _, _, i + 1, x, .cons r t, e => by
    obtain ⟨y, h1, h2⟩ := pr_getl (i := i) (x := x) t (by simpa using e)
    exact ⟨y, by simpa using h1, h2⟩
theorem pr_take : ∀ {a : List α} {b : List β} (n : Nat), Paired F a b → Paired F (a.take n) (b.take n)
  | _, _, 0, _ => .nil
  | _, _, n + 1, .nil => .nil
  | _, _, n + 1, .cons r t => .cons r (pr_take n t)
theorem pr_drop : ∀ {a : List α} {b : List β} (n : Nat), Paired F a b → Paired F (a.drop n) (b.drop n)
  | _, _, 0, h => h
  | _, _, n + 1, .nil => .nil
  | _, _, n + 1, .cons r t => pr_drop n t
theorem pr_rev : ∀ {a : List α} {b : List β}, Paired F a b → Paired F a.reverse b.reverse
  | _, _, .nil => .nil
  | _, _, .cons r t => by
    rw [List.reverse_cons, List.reverse_cons]
    exact pr_append (pr_rev t) (.cons r .nil)
theorem pr_set : ∀ {a : List α} {b : List β} {x : α} {y : β} (i : Nat), Paired F a b → F x y → Paired F (a.set i x) (b.set i y)
  | _, _, _, _, _, .nil, _ => .nil
  | _, _, _, _, 0, .cons r t, h => .cons h t
  | _, _, _, _, i + 1, .cons r t, h => .cons r (pr_set i t h)
theorem pr_of {f : β → α} : ∀ {b : List β}, (∀ y ∈ b, F (f y) y) → Paired F (b.map f) b
  | [], _ => .nil
  | y :: b, h => .cons (h y (List.mem_cons_self ..)) (pr_of fun z hz => h z (List.mem_cons_of_mem _ hz))
theorem pr_mapr {G : α → γ → Prop} {f : β → γ} : ∀ {a : List α} {b : List β}, Paired F a b → (∀ x y, F x y → G x (f y)) → Paired G a (b.map f)
  | _, _, .nil, _ => .nil
  | _, _, .cons r t, h => .cons (h _ _ r) (pr_mapr t h)
theorem pr_unmapr {G : α → γ → Prop} {f : β → γ} : ∀ {a : List α} {b : List β}, Paired G a (b.map f) → Paired (fun x y => G x (f y)) a b
  | [], [], _ => .nil
  | _ :: _, [], h => by cases h
  | [], _ :: _, h => by cases h
  | a :: as, b :: bs, h => by cases h with | cons r t => exact .cons r (pr_unmapr t)
theorem pr_mono {G : α → β → Prop} : ∀ {a : List α} {b : List β}, Paired F a b → (∀ x y, y ∈ b → F x y → G x y) → Paired G a b
  | _, _, .nil, _ => .nil
  | _, _, .cons r t, h => .cons (h _ _ (List.mem_cons_self ..) r) (pr_mono t fun x y hy => h x y (List.mem_cons_of_mem _ hy))
end

/-! ### what a value stands for -/
def RepV (K : PySem.W.Frag) (ι : List Addr) (H : Hp) (u : V) : Vl → Prop
  | .dat d => Dp K H u d.py
  | .ref n => ∃ a, ι[n]? = some a ∧ u = .ref a
abbrev RepVs (K : PySem.W.Frag) (ι : List Addr) (H : Hp) (us : List V) (vs : List Vl) : Prop := Paired (RepV K ι H) us vs
/-- the script's list where it stands in the written part -/
def KL (K : PySem.W.Frag) (a : Addr) (us : List V) : Prop :=
  ∃ (o : Obj) (its : Array Value) (n : Nat), K.lookup a = some o ∧ o.cls = .type "list" ∧ o.dict = none ∧ o.data = .seq its n ∧ its.size ≤ sizeLine ∧ Vals us its.toList
def CellOk (K : PySem.W.Frag) (cl : Nat → Addr) (ι : List Addr) (H : Hp) (a : Addr) : Cell → Prop
  | .lst vs => ∃ us, H a = some (.lst us) ∧ RepVs K ι H us vs
  | .rol ns => SqL K H a (ns.map V.int)
  | .dct kvs => False
  | .ins c fs => ∃ dx gs, H a = some (.ins (cl c) dx gs) ∧ Paired (fun (p : Str × V) (q : Str × Vl) => p.1 = q.1 ∧ RepV K ι H p.2 q.2) gs fs
def KRol (K : PySem.W.Frag) (cs : List Cell) (n : Nat) (a : Addr) : Prop := ∃ ns : List Int, cs[n]? = some (.rol ns) ∧ KL K a (ns.map V.int)
structure Rel (K : PySem.W.Frag) (cl : Nat → Addr) (ι : List Addr) (cs : List Cell) (H : Hp) : Prop where
  len : ι.length = cs.length
  dist : ∀ (n m : Nat) (a : Addr), n ≠ m → ι[n]? = some a → ι[m]? = some a → KRol K cs n a ∨ KRol K cs m a
  cell : ∀ (n : Nat) (a : Addr) (c : Cell), ι[n]? = some a → cs[n]? = some c → CellOk K cl ι H a c
def EnvRel (K : PySem.W.Frag) (ι : List Addr) (H : Hp) (env : Env) (σ : L2.St) : Prop :=
  env.length = σ.length ∧ ∀ (i : Nat) (v : Vl), env[i]? = some (some v) → ∃ u, σ[i]? = some (some u) ∧ RepV K ι H u v
/-- what a part leaves: the old addresses, new ones where nothing stood, tuples and strange objects as they were -/
structure Post (ι : List Addr) (H : Hp) (ι' : List Addr) (H' : Hp) : Prop where
  pre : ∀ (n : Nat) (a : Addr), ι[n]? = some a → ι'[n]? = some a
  new : ∀ (n : Nat) (a : Addr), ι.length ≤ n → ι'[n]? = some a → H a = none
  old : ∀ (a : Addr) (o : HO), H a = some o → (∀ n : Nat, ι[n]? ≠ some a) → H' a = some o
  tup : ∀ (a : Addr) (xs : List V), Rd H a (.tup xs) → Rd H' a (.tup xs)
  keep : ∀ a : Addr, H' a = none → H a = none
theorem Post.refl (ι : List Addr) (H : Hp) : Post ι H ι H := ⟨fun _ _ h => h, fun n a h e => (by rw [List.getElem?_eq_none h] at e; cases e), fun _ _ h _ => h, fun _ _ h => h, fun _ h => h⟩
theorem Post.len {ι ι' : List Addr} {H H' : Hp} (p : Post ι H ι' H') : ι.length ≤ ι'.length := by
  by_cases h : ι.length = 0
  · omega
  · have h1 : ι.length - 1 < ι.length := by omega
    have h2 := p.pre (ι.length - 1) _ (List.getElem?_eq_getElem h1)
    have h3 := (List.getElem?_eq_some_iff.mp h2).1
    omega
theorem Post.trans {ι ι1 ι2 : List Addr} {H H1 H2 : Hp} (p : Post ι H ι1 H1) (q : Post ι1 H1 ι2 H2) : Post ι H ι2 H2 := by
  refine ⟨fun n a h => q.pre n a (p.pre n a h), fun n a h e => ?_, fun a o h hn => ?_, fun a xs h => q.tup a xs (p.tup a xs h), fun a h => p.keep a (q.keep a h)⟩
  · by_cases h1 : n < ι1.length
    · obtain ⟨b, hb⟩ : ∃ b, ι1[n]? = some b := ⟨_, List.getElem?_eq_getElem h1⟩
      have e2 := q.pre n b hb
      rw [e] at e2
      cases e2
      exact p.new n a h hb
    · exact p.keep a (q.new n a (by omega) e)
  · refine q.old a o (p.old a o h hn) fun n hn' => ?_
    by_cases h1 : n < ι.length
    · obtain ⟨b, hb⟩ : ∃ b, ι[n]? = some b := ⟨_, List.getElem?_eq_getElem h1⟩
      have := p.pre n b hb
      rw [hn'] at this
      cases this
      exact hn n hb
    · have := p.new n a (by omega) hn'
      rw [h] at this
      cases this

/-! ### data stay while tuples stay -/
theorem sqT_mono {K : PySem.W.Frag} {H H' : Hp} {a : Addr} {xs : List V} (t : ∀ (a : Addr) (xs : List V), Rd H a (.tup xs) → Rd H' a (.tup xs)) (h : SqT K H a xs) : SqT K H' a xs := by
  rcases h with h | h
  · exact .inl (t a xs h)
  · exact .inr h
mutual
theorem dp_mono {K : PySem.W.Frag} {H H' : Hp} (t : ∀ (a : Addr) (xs : List V), Rd H a (.tup xs) → Rd H' a (.tup xs)) : ∀ (d : D) (u : V), Dp K H u d.py → Dp K H' u d.py
  | .non, u, h => by rw [D.py] at h ⊢; cases h; exact .non
  | .bl b, u, h => by rw [D.py] at h ⊢; cases h; exact .bl b
  | .int i, u, h => by rw [D.py] at h ⊢; cases h; exact .int i
  | .str s, u, h => by rw [D.py] at h ⊢; cases h; exact .str s
  | .tup l, u, h => by
    rw [D.py] at h ⊢
    cases h with
    | tup h1 h2 => exact .tup (sqT_mono t h1) (dps_mono t l _ h2)
theorem dps_mono {K : PySem.W.Frag} {H H' : Hp} (t : ∀ (a : Addr) (xs : List V), Rd H a (.tup xs) → Rd H' a (.tup xs)) : ∀ (ds : List D) (us : List V), DpAll K H us (pys ds) → DpAll K H' us (pys ds)
  | [], us, h => by rw [pys] at h ⊢; cases h; exact .nil
  | d :: ds, us, h => by
    rw [pys] at h ⊢
    cases h with
    | cons h1 h2 => exact .cons (dp_mono t d _ h1) (dps_mono t ds _ h2)
end
theorem dpAll_of {K : PySem.W.Frag} {H : Hp} : ∀ {us : List V} {ds : List D}, Paired (fun u (d : D) => Dp K H u d.py) us ds → DpAll K H us (pys ds)
  | _, _, .nil => by rw [pys]; exact .nil
  | _, _, .cons r t => by rw [pys]; exact .cons r (dpAll_of t)
theorem of_dpAll {K : PySem.W.Frag} {H : Hp} : ∀ {us : List V} {ds : List D}, DpAll K H us (pys ds) → Paired (fun u (d : D) => Dp K H u d.py) us ds
  | us, [], h => by rw [pys] at h; cases h; exact .nil
  | us, d :: ds, h => by rw [pys] at h; cases h with | cons r t => exact .cons r (of_dpAll t)
section
variable {K : PySem.W.Frag} {cl : Nat → Addr} {ι ι' : List Addr} {H H' : Hp} {u : V} {us : List V} {v : Vl} {vs : List Vl} {cs cs' : List Cell} {env : Env} {σ : L2.St}
theorem RepV.tup_inv {ds : List D} (h : RepV K ι H u (.dat (.tup ds))) : ∃ a xs, u = .ref a ∧ SqT K H a xs ∧ Paired (fun u (d : D) => Dp K H u d.py) xs ds := by
  have h' : Dp K H u (D.tup ds).py := h
  rw [D.py] at h'
  cases h' with
  | tup h1 h2 => exact ⟨_, _, rfl, h1, of_dpAll h2⟩
theorem RepV.tup_of {a : Addr} {xs : List V} {ds : List D} (h : SqT K H a xs) (r : Paired (fun u (d : D) => Dp K H u d.py) xs ds) : RepV K ι H (.ref a) (.dat (.tup ds)) := by
  show Dp K H (.ref a) (D.tup ds).py
  rw [D.py]
  exact .tup h (dpAll_of r)
theorem repv_non : RepV K ι H u (.dat .non) ↔ u = .non := by
  show Dp K H u D.non.py ↔ _
  rw [D.py]
  exact ⟨fun h => by cases h; rfl, fun h => by rw [h]; exact .non⟩
theorem repv_int {i : Int} : RepV K ι H u (.dat (.int i)) ↔ u = .int i := by
  show Dp K H u (D.int i).py ↔ _
  rw [D.py]
  exact ⟨fun h => by cases h; rfl, fun h => by rw [h]; exact .int i⟩
theorem repv_bl {i : Bool} : RepV K ι H u (.dat (.bl i)) ↔ u = .bl i := by
  show Dp K H u (D.bl i).py ↔ _
  rw [D.py]
  exact ⟨fun h => by cases h; rfl, fun h => by rw [h]; exact .bl i⟩
theorem repv_str {i : Str} : RepV K ι H u (.dat (.str i)) ↔ u = .str i := by
  show Dp K H u (D.str i).py ↔ _
  rw [D.py]
  exact ⟨fun h => by cases h; rfl, fun h => by rw [h]; exact .str i⟩
theorem RepV.mono (p : Post ι H ι' H') (h : RepV K ι H u v) : RepV K ι' H' u v := by
  cases v with
  | dat d => exact dp_mono p.tup d u h
  | ref n => obtain ⟨a, h1, h2⟩ := h; exact ⟨a, p.pre n a h1, h2⟩
theorem RepVs.mono (p : Post ι H ι' H') (h : RepVs K ι H us vs) : RepVs K ι' H' us vs := pr_mono h fun _ _ _ r => RepV.mono p r
theorem EnvRel.mono (p : Post ι H ι' H') (h : EnvRel K ι H env σ) : EnvRel K ι' H' env σ := ⟨h.1, fun i v e => by
  obtain ⟨u, h1, h2⟩ := h.2 i v e
  exact ⟨u, h1, RepV.mono p h2⟩⟩
theorem EnvRel.set {i : Nat} (h : EnvRel K ι H env σ) (r : RepV K ι H u v) : EnvRel K ι H (env.set i (some v)) (σ.set i (some u)) := by
  refine ⟨by simp [h.1], fun j w e => ?_⟩
  by_cases hj : i = j
  · subst hj
    by_cases hl : i < env.length
    · rw [List.getElem?_set_self hl] at e
      cases e
      exact ⟨u, List.getElem?_set_self (by rw [← h.1]; exact hl), r⟩
    · rw [List.getElem?_eq_none (by simpa using hl)] at e
      cases e
  · rw [List.getElem?_set_ne hj] at e ⊢
    exact h.2 j w e
/-- a fresh object in the heap, no cell of the store -/
theorem Post.fresh {p : Addr} {o : HO} (hp : H p = none) : Post ι H ι (L2.upd H p o) := by
  refine ⟨fun _ _ h => h, fun n a h e => ?_, fun a o' h _ => ?_, fun a xs h => ?_, fun a h => ?_⟩
  · rw [List.getElem?_eq_none h] at e; cases e
  · rw [upd_ne (ne_of_none h hp)]; exact h
  · rcases h with h | ⟨o', h⟩
    · exact .inl (by rw [upd_ne (ne_of_none h hp)]; exact h)
    · exact .inr ⟨o', by rw [upd_ne (ne_of_none h hp)]; exact h⟩
  · by_cases e : a = p
    · rw [e]; exact hp
    · rw [upd_ne e] at h; exact h
theorem SqL.monoU {p a : Addr} {o : HO} {xs : List V} (hp : H p = none) (h : SqL K H a xs) : SqL K (L2.upd H p o) a xs := by
  rcases h with h | h
  · rcases h with h | ⟨o', h⟩
    · exact .inl (.inl (by rw [upd_ne (ne_of_none h hp)]; exact h))
    · exact .inl (.inr ⟨o', by rw [upd_ne (ne_of_none h hp)]; exact h⟩)
  · exact .inr h
/-- the store is there in a heap in which its own objects stand as before -/
theorem CellOk.mono {a : Addr} {c : Cell} (p : Post ι H ι' H') (ha : ∀ o, H a = some o → H' a = some o) (h : CellOk K cl ι H a c) : CellOk K cl ι' H' a c := by
  cases c with
  | lst xs => obtain ⟨us, h1, h2⟩ := h; exact ⟨us, ha _ h1, RepVs.mono p h2⟩
  | rol xs =>
    have h1 : SqL K H a (xs.map V.int) := h
    show SqL K H' a (xs.map V.int)
    rcases h1 with h1 | h1
    · rcases h1 with h1 | ⟨o, h1⟩
      · exact .inl (.inl (ha _ h1))
      · exact .inl (.inr ⟨o, ha _ h1⟩)
    · exact .inr h1
  | dct kvs => exact h
  | ins c fs =>
    obtain ⟨dx, gs, h1, h2⟩ := h
    exact ⟨dx, gs, ha _ h1, pr_mono h2 fun _ _ _ r => ⟨r.1, RepV.mono p r.2⟩⟩
theorem Rel.fresh {p : Addr} {o : HO} (hp : H p = none) (h : Rel K cl ι cs H) : Rel K cl ι cs (L2.upd H p o) :=
  ⟨h.len, h.dist, fun n a c e1 e2 => CellOk.mono (Post.fresh hp) (fun o' h' => by rw [upd_ne (ne_of_none h' hp)]; exact h') (h.cell n a c e1 e2)⟩
/-- nothing stands there: so no cell of the store but the script's of the written part -/
theorem Rel.none_at (h : Rel K cl ι cs H) {p : Addr} (hp : H p = none) {n : Nat} (e : ι[n]? = some p) : KRol K cs n p := by
  have hl : n < cs.length := by rw [← h.len]; exact (List.getElem?_eq_some_iff.mp e).1
  obtain ⟨c, hc⟩ : ∃ c, cs[n]? = some c := ⟨_, List.getElem?_eq_getElem hl⟩
  have := h.cell n p c e hc
  cases c with
  | lst xs => obtain ⟨us, h1, _⟩ := this; rw [hp] at h1; cases h1
  | rol xs =>
    have h1 : SqL K H p (xs.map V.int) := this
    rcases h1 with h1 | h1
    · rcases h1 with h1 | ⟨o, h1⟩
      · rw [hp] at h1; cases h1
      · rw [hp] at h1; cases h1
    · exact ⟨xs, hc, h1⟩
  | dct kvs => exact absurd this id
  | ins c fs => obtain ⟨dx, gs, h1, _⟩ := this; rw [hp] at h1; cases h1
theorem KRol.app {n : Nat} {a : Addr} (h : KRol K cs n a) (l : List Cell) : KRol K (cs ++ l) n a := by
  obtain ⟨vs, h1, h2⟩ := h
  exact ⟨vs, by rw [List.getElem?_append_left (List.getElem?_eq_some_iff.mp h1).1]; exact h1, h2⟩
theorem post_new {p : Addr} {o : HO} (hp : H p = none) : Post ι H (ι ++ [p]) (L2.upd H p o) := by
  have q := Post.fresh (ι := ι) (o := o) hp
  refine ⟨fun n a h => by rw [List.getElem?_append_left (List.getElem?_eq_some_iff.mp h).1]; exact h, fun n a h e => ?_, q.old, q.tup, q.keep⟩
  by_cases hn : n = ι.length
  · subst hn
    rw [List.getElem?_append_right (Nat.le_refl _)] at e
    simp at e
    rw [← e]; exact hp
  · rw [List.getElem?_eq_none (by simp; omega)] at e; cases e
/-- a new cell, its object already laid -/
theorem Rel.push {p : Addr} {o : HO} {c : Cell} (hp : H p = none) (h : Rel K cl ι cs H) (hc : CellOk K cl (ι ++ [p]) (L2.upd H p o) p c) : Rel K cl (ι ++ [p]) (cs ++ [c]) (L2.upd H p o) := by
  have hl := h.len
  refine ⟨by simp [hl], fun n m a hnm e1 e2 => ?_, fun n a c' e1 e2 => ?_⟩
  · have key : ∀ {n : Nat} {a : Addr}, (ι ++ [p])[n]? = some a → (ι[n]? = some a) ∨ (n = ι.length ∧ a = p) := fun {n a} e => by
      by_cases hn : n < ι.length
      · rw [List.getElem?_append_left hn] at e; exact .inl e
      · rw [List.getElem?_append_right (by omega)] at e
        by_cases h0 : n - ι.length = 0
        · rw [h0] at e; simp at e; exact .inr ⟨by omega, e.symm⟩
        · rw [List.getElem?_eq_none (by simp; omega)] at e; cases e
    rcases key e1 with f1 | ⟨f1, g1⟩ <;> rcases key e2 with f2 | ⟨f2, g2⟩
    · exact (h.dist n m a hnm f1 f2).imp (·.app _) (·.app _)
    · subst g2; exact .inl ((h.none_at hp f1).app _)
    · subst g1; exact .inr ((h.none_at hp f2).app _)
    · omega
  · by_cases hn : n < ι.length
    · rw [List.getElem?_append_left hn] at e1
      rw [List.getElem?_append_left (by rw [← hl]; exact hn)] at e2
      exact CellOk.mono (post_new hp) (fun o' h' => by rw [upd_ne (ne_of_none h' hp)]; exact h') (h.cell n a c' e1 e2)
    · rw [List.getElem?_append_right (by omega)] at e1 e2
      have h0 : n - ι.length = 0 := by
        by_cases h0 : n - ι.length = 0
        · exact h0
        · rw [List.getElem?_eq_none (by simp; omega)] at e1; cases e1
      have h0' : n - cs.length = 0 := by omega
      rw [h0] at e1
      rw [h0'] at e2
      simp at e1 e2
      rw [← e1, ← e2]
      exact hc
/-- a cell is written -/
theorem post_write {a : Addr} {o o' : HO} {n : Nat} (e : ι[n]? = some a) (ho : H a = some o) (mu : Mut (some o)) : Post ι H ι (L2.upd H a o') := by
  refine ⟨fun _ _ h => h, fun n a h e => (by rw [List.getElem?_eq_none h] at e; cases e), fun b u h hn => ?_, fun b xs h => ?_, fun b h => ?_⟩
  · have : b ≠ a := fun z => hn n (by rw [z]; exact e)
    rw [upd_ne this]; exact h
  · have : b ≠ a := fun z => by
      subst z
      rcases h with h | ⟨u, h⟩
      · rw [ho] at h; cases h; exact mu
      · rw [ho] at h; cases h; exact mu
    rcases h with h | ⟨u, h⟩
    · exact .inl (by rw [upd_ne this]; exact h)
    · exact .inr ⟨u, by rw [upd_ne this]; exact h⟩
  · by_cases z : b = a
    · rw [z, upd_same] at h; cases h
    · rw [upd_ne z] at h; exact h
theorem Rel.write {a : Addr} {o o' : HO} {n : Nat} {c c' : Cell} (h : Rel K cl ι cs H) (e : ι[n]? = some a) (ec : cs[n]? = some c) (nr : ∀ vs, c ≠ .rol vs) (ho : H a = some o) (mu : Mut (some o)) (hc : CellOk K cl ι (L2.upd H a o') a c') :
    Rel K cl ι (cs.set n c') (L2.upd H a o') := by
  have hn : n < cs.length := (List.getElem?_eq_some_iff.mp ec).1
  have kk : ∀ {m : Nat} {b : Addr}, KRol K cs m b → KRol K (cs.set n c') m b := fun {m b} ⟨vs, h1, h2⟩ => by
    refine ⟨vs, ?_, h2⟩
    have : n ≠ m := fun z => by subst z; rw [ec] at h1; cases h1; exact nr _ rfl
    rw [List.getElem?_set_ne this]; exact h1
  refine ⟨by rw [List.length_set]; exact h.len, fun m k b hmk e1 e2 => (h.dist m k b hmk e1 e2).imp kk kk, fun m b d e1 e2 => ?_⟩
  by_cases hm : n = m
  · subst hm
    rw [e] at e1; cases e1
    rw [List.getElem?_set_self hn] at e2; cases e2
    exact hc
  · rw [List.getElem?_set_ne hm] at e2
    by_cases hb : b = a
    · subst hb
      rcases h.dist n m b hm e e1 with ⟨vs, k1, k2⟩ | ⟨vs, k1, k2⟩
      · rw [ec] at k1; cases k1; exact absurd rfl (nr vs)
      · rw [e2] at k1; cases k1
        exact .inr k2
    · exact CellOk.mono (post_write e ho mu) (fun o2 h2 => by rw [upd_ne hb]; exact h2) (h.cell m b d e1 e2)
end
end PI
/-! PI3: what a run of the interpreter promises of the heap; parts that are cut off. -/
namespace PI
open PySem PySem.Spec L2

/-- the static part: the written text, the classes' addresses, the exceptions' classes -/
structure Wd where
  K : PySem.W.Frag
  cl : Nat → Addr
  xa : Str → Value
abbrev Wd.R (w : Wd) (ι : List Addr) (s : S) (H : Hp) : Prop := Rel w.K w.cl ι s.cells H
def ExcRep (w : Wd) (e : Exc) (c : Value) (d : Option Addr) (H : Hp) : Prop :=
  c = w.xa e.cls ∧ (e.fs = [] ∨ ∃ dd gs, d = some dd ∧ H dd = some (.xd gs) ∧ Paired (fun (p : Str × V) (q : Str × D) => p.1 = q.1 ∧ Dp w.K H p.2 q.2.py) gs e.fs)

/-- a result, from ι and H on: C of an answer, W of an exception -/
def ResG {α : Type} (w : Wd) (ι : List Addr) (H : Hp) (W : Value → Option Addr → Hp → Prop) (C : α → S → List Addr → Hp → Prop) : R α → Prop
  | .ok a s' => ∀ ι' H', w.R ι' s' H' → Post ι H ι' H' → C a s' ι' H'
  | .exc e s' => ∀ ι' H' c d, w.R ι' s' H' → Post ι H ι' H' → ExcRep w e c d H' → W c d H'
  | .bad => False
section
variable {α β : Type} {w : Wd} {ι ι' : List Addr} {H H' : Hp} {W : Value → Option Addr → Hp → Prop} {C : α → S → List Addr → Hp → Prop} {r : R α} {s : S}
theorem ResG.from (p : Post ι H ι' H') (h : ResG w ι H W C r) : ResG w ι' H' W C r := by
  cases r with
  | ok a s' => exact fun ι2 H2 r2 p2 => h ι2 H2 r2 (p.trans p2)
  | exc e s' => exact fun ι2 H2 c d r2 p2 x => h ι2 H2 c d r2 (p.trans p2) x
  | bad => exact h
theorem ResG.mono {C' : α → S → List Addr → Hp → Prop} (h : ResG w ι H W C r) (f : ∀ a s' ι' H', w.R ι' s' H' → Post ι H ι' H' → C a s' ι' H' → C' a s' ι' H') : ResG w ι H W C' r := by
  cases r with
  | ok a s' => exact fun ι2 H2 r2 p2 => f a s' ι2 H2 r2 p2 (h ι2 H2 r2 p2)
  | exc e s' => exact h
  | bad => exact h
theorem ResG.bind {m : M α} {f : α → M β} {C : β → S → List Addr → Hp → Prop} (h : ResG w ι H W C ((M.bind m f).run s)) :
    ResG w ι H W (fun a s1 ι1 H1 => ResG w ι1 H1 W C ((f a).run s1)) (m.run s) := by
  rw [run_mbind] at h
  cases e : m.run s with
  | ok a s1 =>
    rw [e] at h
    exact fun ι1 H1 _ p1 => h.from p1
  | exc x s1 => rw [e] at h; exact h
  | bad => rw [e] at h; exact h
theorem ResG.bind2 {m : M α} {f : α → M β} {C : β → S → List Addr → Hp → Prop} (h : ResG w ι H W (fun a s1 ι1 H1 => ResG w ι1 H1 W C ((f a).run s1)) (m.run s)) (hr : ∃ ι', w.R ι' s H ∧ Post ι H ι' H) : True := trivial
/-- the answer is there -/
theorem ResG.pure {a : α} (h : ResG w ι H W C ((M.pure a).run s)) (r : w.R ι s H) : C a s ι H := h ι H r (Post.refl ι H)
end

/-- what is asked of an expression: Q of the value -/
def CQ (w : Wd) (Q : VK) : Vl → S → List Addr → Hp → Prop := fun v _ ι' H' => ∀ u, RepV w.K ι' H' u v → Q u H'
def tE (w : Wd) (W : Value → Option Addr → L2.St → Hp → Prop) (m : Env → M Vl) : TE := fun σ H Q =>
  ∃ ι env s, w.R ι s H ∧ EnvRel w.K ι H env σ ∧ ResG w ι H (fun c d H' => W c d σ H') (CQ w Q) ((m env).run s)
def tT (w : Wd) (W : Value → Option Addr → L2.St → Hp → Prop) (m : Env → M Bool) : TT := fun σ H Q =>
  ∃ ι env s, w.R ι s H ∧ EnvRel w.K ι H env σ ∧ ResG w ι H (fun c d H' => W c d σ H') (fun b _ _ H' => Q b H') ((m env).run s)
def tA (w : Wd) (W : Value → Option Addr → L2.St → Hp → Prop) (m : Env → M (List Vl)) : TA := fun σ H Q =>
  ∃ ι env s, w.R ι s H ∧ EnvRel w.K ι H env σ ∧ ResG w ι H (fun c d H' => W c d σ H') (fun vs _ ι' H' => ∀ us, RepVs w.K ι' H' us vs → Q us H') ((m env).run s)
/-- what is asked of a statement -/
def CS (w : Wd) (W : Value → Option Addr → L2.St → Hp → Prop) (D : Ends) : Env × Fl → S → List Addr → Hp → Prop := fun r _ ι' H' => match r.2 with
  | .nx => ∀ σ', EnvRel w.K ι' H' r.1 σ' → D.nx σ' H'
  | .bk => ∀ σ', EnvRel w.K ι' H' r.1 σ' → D.bk σ' H'
  | .ct => ∀ σ', EnvRel w.K ι' H' r.1 σ' → D.ct σ' H'
  | .rt v => ∀ u, RepV w.K ι' H' u v → D.rt u H'
  | .rs e => ∀ σ' c d, EnvRel w.K ι' H' r.1 σ' → ExcRep w e c d H' → W c d σ' H'
def tS (w : Wd) (W : Value → Option Addr → L2.St → Hp → Prop) (m : Env → M (Env × Fl)) : TS := fun D σ H =>
  ∃ ι env s, w.R ι s H ∧ EnvRel w.K ι H env σ ∧ ResG w ι H (fun _ _ _ => False) (CS w W D) ((m env).run s)

theorem PE.imp {X : Cx} {e : Expr} {t t' : TE} (h : PE X e t) (f : ∀ σ H Q, t' σ H Q → t σ H Q) : PE X e t' := ⟨fun pins s σ H Q I q => h.run pins s σ H Q I (f σ H Q q)⟩
theorem PT.imp {X : Cx} {e : Expr} {t t' : TT} (h : PT X e t) (f : ∀ σ H Q, t' σ H Q → t σ H Q) : PT X e t' := ⟨fun pins s σ H Q I q => h.run pins s σ H Q I (f σ H Q q)⟩
theorem PA.imp {X : Cx} {e : List Expr} {t t' : TA} (h : PA X e t) (f : ∀ σ H Q, t' σ H Q → t σ H Q) : PA X e t' := ⟨fun pos pins s σ H Q I q => h.run pos pins s σ H Q I (f σ H Q q)⟩
theorem PS.imp {X : Cx} {e : Stmt} {t t' : TS} (h : PS X e t) (f : ∀ D σ H, t' D σ H → t D σ H) : PS X e t' := ⟨fun pins s σ H D I q => h.run pins s σ H D I (f D σ H q)⟩
theorem PSs.imp {X : Cx} {e : List Stmt} {t t' : TS} (h : PSs X e t) (f : ∀ D σ H, t' D σ H → t D σ H) : PSs X e t' := ⟨fun pins s σ H D I q => h.run pins s σ H D I (f D σ H q)⟩

/-! ### parts that are cut off -/
section
variable {w : Wd} {ι ι' : List Addr} {H H' : Hp} {s s' : S} {K : PySem.W.Frag}
theorem repv_cut {b : Nat} {u : V} {v : Vl} (h : RepV K ι' H' u v) (hv : ∀ r ∈ v.refs, r < b) (l : List Addr) (hb : b ≤ ι'.length) : RepV K (ι'.take b ++ l) H' u v := by
  cases v with
  | dat d => exact h
  | ref n =>
    obtain ⟨a, h1, h2⟩ := h
    have hn : n < b := hv n (List.mem_singleton.mpr rfl)
    refine ⟨a, ?_, h2⟩
    rw [List.getElem?_append_left (by rw [List.length_take]; omega), List.getElem?_take_of_lt hn]
    exact h1
theorem cell_cut {cl : Nat → Addr} {b : Nat} {a : Addr} {c : Cell} (h : CellOk K cl ι' H' a c) (hc : ∀ r ∈ c.refs, r < b) (l : List Addr) (hb : b ≤ ι'.length) : CellOk K cl (ι'.take b ++ l) H' a c := by
  cases c with
  | lst xs =>
    obtain ⟨us, h1, h2⟩ := h
    refine ⟨us, h1, pr_mono h2 fun x y hy r => repv_cut r (fun q hq => hc q ?_) l hb⟩
    exact List.mem_flatMap.mpr ⟨y, hy, hq⟩
  | rol xs => exact h
  | dct kvs => exact h
  | ins c fs =>
    obtain ⟨dx, gs, h1, h2⟩ := h
    refine ⟨dx, gs, h1, pr_mono h2 fun x y hy r => ⟨r.1, repv_cut r.2 (fun q hq => hc q ?_) l hb⟩⟩
    exact List.mem_flatMap.mpr ⟨y, hy, hq⟩
theorem logClear_mem {b : Nat} {l : List (Nat × Nat)} (h : logClear b l = true) {n r : Nat} (hm : (n, r) ∈ l) : b ≤ n ∨ r < b := by
  have := List.all_eq_true.mp h (n, r) hm
  rcases Bool.or_eq_true_iff.mp this with z | z
  · exact .inl (Nat.le_of_ble_eq_true z)
  · exact .inr (Nat.le_of_ble_eq_true z)
theorem refs_lt {cl : Nat → Addr} {a : Addr} {c : Cell} (h : CellOk K cl ι H a c) : ∀ r ∈ c.refs, r < ι.length := by
  have rv : ∀ {u : V} {v : Vl}, RepV K ι H u v → ∀ r ∈ v.refs, r < ι.length := fun {u v} h r hr => by
    cases v with
    | dat d => cases hr
    | ref n =>
      obtain ⟨a, h1, _⟩ := h
      have : r = n := by simpa [Vl.refs] using hr
      rw [this]
      exact (List.getElem?_eq_some_iff.mp h1).1
  intro r hr
  cases c with
  | lst xs =>
    obtain ⟨us, h1, h2⟩ := h
    obtain ⟨y, hy, hq⟩ := List.mem_flatMap.mp hr
    obtain ⟨j, hj⟩ := List.getElem?_of_mem hy
    obtain ⟨x, _, h3⟩ := pr_get h2 hj
    exact rv h3 r hq
  | rol xs => cases hr
  | dct kvs => exact absurd h id
  | ins c fs =>
    obtain ⟨dx, gs, h1, h2⟩ := h
    obtain ⟨y, hy, hq⟩ := List.mem_flatMap.mp hr
    obtain ⟨j, hj⟩ := List.getElem?_of_mem hy
    obtain ⟨x, _, h3⟩ := pr_get h2 hj
    exact rv h3.2 r hq
/-- the old cells alone, and perhaps one more -/
theorem rel_cut (R0 : w.R ι s H) (R1 : w.R ι' s' H') (p : Post ι H ι' H') (lg : LogOk ⟨s.cells, []⟩ s') (hl : logClear s.cells.length s'.log = true) :
    w.R (ι'.take s.cells.length) ⟨s'.cells.take s.cells.length, []⟩ H' ∧ Post ι H (ι'.take s.cells.length) H' := by
  have l0 := R0.len
  have l1 := R1.len
  have lle : s.cells.length ≤ s'.cells.length := lg.len
  have pl := p.len
  have kr : ∀ {n : Nat} {a : Addr}, n < s.cells.length → KRol w.K s'.cells n a → KRol w.K (s'.cells.take s.cells.length) n a := fun {n a} hn ⟨ns, h1, h2⟩ => ⟨ns, by rw [List.getElem?_take_of_lt hn]; exact h1, h2⟩
  have cut : ∀ {n : Nat} {a : Addr}, (ι'.take s.cells.length)[n]? = some a → n < s.cells.length ∧ ι'[n]? = some a := fun {n a} e => by
    have hn : n < s.cells.length := by
      have := (List.getElem?_eq_some_iff.mp e).1
      rw [List.length_take] at this
      omega
    rw [List.getElem?_take_of_lt hn] at e
    exact ⟨hn, e⟩
  refine ⟨⟨by simp only [List.length_take]; omega, fun n m a hnm e1 e2 => ?_, fun n a c e1 e2 => ?_⟩, ⟨fun n a e => ?_, fun n a hn e => ?_, p.old, p.tup, p.keep⟩⟩
  · obtain ⟨n1, f1⟩ := cut e1
    obtain ⟨n2, f2⟩ := cut e2
    exact (R1.dist n m a hnm f1 f2).imp (kr n1) (kr n2)
  · obtain ⟨n1, f1⟩ := cut e1
    have e2' : s'.cells[n]? = some c := by
      have e3 : (s'.cells.take s.cells.length)[n]? = some c := e2
      rw [List.getElem?_take_of_lt n1] at e3
      exact e3
    have hc := R1.cell n a c f1 e2'
    have := cell_cut (b := s.cells.length) hc (fun r hr => ?_) [] (by omega)
    · rw [List.append_nil] at this; exact this
    · rcases lg.cel n c n1 e2' r hr with ⟨c0, h0, hr0⟩ | hm
      · have hn : n < ι.length := by rw [l0]; exact n1
        have := refs_lt (R0.cell n _ c0 (List.getElem?_eq_getElem hn) h0) r hr0
        omega
      · rcases logClear_mem hl hm with z | z
        · omega
        · exact z
  · have hn : n < s.cells.length := by rw [← l0]; exact (List.getElem?_eq_some_iff.mp e).1
    rw [List.getElem?_take_of_lt hn]
    exact p.pre n a e
  · obtain ⟨n1, _⟩ := cut e
    omega
theorem rel_cut1 (R0 : w.R ι s H) (R1 : w.R ι' s' H') (p : Post ι H ι' H') (lg : LogOk ⟨s.cells, []⟩ s') (hl : logClear s.cells.length s'.log = true) {r : Nat} {a : Addr} {c : Cell} (hr : s.cells.length ≤ r) (ha : ι'[r]? = some a)
    (hc : s'.cells[r]? = some c) (hcr : ∀ q ∈ c.refs, q < s.cells.length) :
    w.R (ι'.take s.cells.length ++ [a]) ⟨s'.cells.take s.cells.length ++ [c], []⟩ H' ∧ Post ι H (ι'.take s.cells.length ++ [a]) H' := by
  obtain ⟨R2, p2⟩ := rel_cut R0 R1 p lg hl
  have l0 := R0.len
  have l1 := R1.len
  have lle : s.cells.length ≤ s'.cells.length := lg.len
  have lc : (s'.cells.take s.cells.length).length = s.cells.length := by rw [List.length_take]; omega
  have li : (ι'.take s.cells.length).length = s.cells.length := by rw [List.length_take]; omega
  have key : ∀ {n : Nat} {b : Addr}, (ι'.take s.cells.length ++ [a])[n]? = some b → ((ι'.take s.cells.length)[n]? = some b ∧ n < s.cells.length) ∨ (n = s.cells.length ∧ b = a) := fun {n b} e => by
    by_cases hn : n < s.cells.length
    · rw [List.getElem?_append_left (by omega)] at e; exact .inl ⟨e, hn⟩
    · rw [List.getElem?_append_right (by omega)] at e
      by_cases h0 : n - (ι'.take s.cells.length).length = 0
      · rw [h0] at e; simp at e; exact .inr ⟨by omega, e.symm⟩
      · rw [List.getElem?_eq_none (by simp; omega)] at e; cases e
  have up : ∀ {n : Nat} {b : Addr}, n < s.cells.length → (ι'.take s.cells.length)[n]? = some b → ι'[n]? = some b := fun {n b} hn e => by
    rw [List.getElem?_take_of_lt hn] at e; exact e
  have last : (s'.cells.take s.cells.length ++ [c])[s.cells.length]? = some c := by
    rw [List.getElem?_append_right (by omega), lc]; simp
  have kr : ∀ {n : Nat} {b : Addr}, n < s.cells.length → KRol w.K s'.cells n b → KRol w.K (s'.cells.take s.cells.length ++ [c]) n b := fun {n b} hn ⟨ns, h1, h2⟩ =>
    ⟨ns, by rw [List.getElem?_append_left (by omega), List.getElem?_take_of_lt hn]; exact h1, h2⟩
  have kr1 : ∀ {b : Addr}, KRol w.K s'.cells r b → KRol w.K (s'.cells.take s.cells.length ++ [c]) s.cells.length b := fun {b} ⟨ns, h1, h2⟩ => by
    rw [hc] at h1; cases h1
    exact ⟨ns, last, h2⟩
  refine ⟨⟨by simp only [List.length_append, lc, li]; simp, fun n m b hnm e1 e2 => ?_, fun n b c' e1 e2 => ?_⟩, ⟨fun n b e => ?_, fun n b hn e => ?_, p.old, p.tup, p.keep⟩⟩
  · rcases key e1 with ⟨f1, g1⟩ | ⟨f1, g1⟩ <;> rcases key e2 with ⟨f2, g2⟩ | ⟨f2, g2⟩
    · exact (R1.dist n m b hnm (up g1 f1) (up g2 f2)).imp (kr g1) (kr g2)
    · subst g2
      subst f2
      exact (R1.dist n r b (by omega) (up g1 f1) ha).imp (kr g1) kr1
    · subst g1
      subst f1
      exact (R1.dist r m b (by omega) ha (up g2 f2)).imp kr1 (kr g2)
    · omega
  · rcases key e1 with ⟨f1, g1⟩ | ⟨f1, g1⟩
    · have e2' : (s'.cells.take s.cells.length)[n]? = some c' := by
        have e3 : (s'.cells.take s.cells.length ++ [c])[n]? = some c' := e2
        rw [List.getElem?_append_left (by omega)] at e3
        exact e3
      have h1 := R2.cell n b c' f1 e2'
      have h2 := cell_cut (b := s.cells.length) h1 (fun q hq => by have := refs_lt h1 q hq; omega) [a] (by omega)
      rw [List.take_take, Nat.min_self] at h2
      exact h2
    · subst f1
      subst g1
      have e3 : (s'.cells.take s.cells.length ++ [c])[s.cells.length]? = some c' := e2
      rw [last] at e3
      cases e3
      exact cell_cut (R1.cell r b c ha hc) hcr [b] (by omega)
  · have h1 := p2.pre n b e
    rw [List.getElem?_append_left (List.getElem?_eq_some_iff.mp h1).1]
    exact h1
  · rcases key e with ⟨f1, g1⟩ | ⟨f1, g1⟩
    · omega
    · subst g1
      exact p.new r b (by omega) ha
/-- a part that is cut off behind it: what it gives, uncut -/
theorem ResG.frame {m : M Vl} {W : Value → Option Addr → Hp → Prop} {Q : VK} (R0 : w.R ι s H) (h : ResG w ι H W (CQ w Q) ((frame m).run s)) : ResG w ι H W (CQ w Q) (m.run ⟨s.cells, []⟩) := by
  rw [run_frame] at h
  have lg := m.lg ⟨s.cells, []⟩
  cases e : m.run ⟨s.cells, []⟩ with
  | bad => rw [e] at h; exact h
  | exc x s1 =>
    rw [e] at h lg
    simp only [finX] at h
    cases hl : logClear s.cells.length s1.log with
    | false => rw [hl] at h; exact h
    | true =>
      rw [hl] at h
      intro ι1 H1 c d R1 p1 xr
      obtain ⟨R2, p2⟩ := rel_cut R0 R1 p1 lg hl
      exact h _ H1 c d R2 p2 xr
  | ok v s1 =>
    rw [e] at h lg
    simp only [fin] at h
    cases hl : logClear s.cells.length s1.log with
    | false => rw [hl] at h; exact h
    | true =>
      rw [hl] at h
      intro ι1 H1 R1 p1 u ru
      obtain ⟨R2, p2⟩ := rel_cut R0 R1 p1 lg hl
      have l0 := R0.len
      have l1 := R1.len
      have lle : s.cells.length ≤ s1.cells.length := lg.len
      cases v with
      | dat d => exact h _ H1 R2 p2 u ru
      | ref r =>
        simp only [] at h
        cases hr : Nat.blt r s.cells.length with
        | true =>
          rw [hr] at h
          refine h _ H1 R2 p2 u ?_
          have := repv_cut (b := s.cells.length) ru (fun q hq => ?_) [] (by omega)
          · rw [List.append_nil] at this; exact this
          · have : q = r := by simpa [Vl.refs] using hq
            rw [this]; exact Nat.le_of_ble_eq_true hr
        | false =>
          rw [hr] at h
          simp only [] at h
          have hr' : s.cells.length ≤ r := by
            apply Nat.le_of_not_lt
            intro z
            have : Nat.blt r s.cells.length = true := Nat.ble_eq_true_of_le z
            rw [hr] at this; cases this
          cases hc : s1.cells[r]? with
          | none => rw [hc] at h; exact absurd h id
          | some c =>
            rw [hc] at h
            simp only [] at h
            cases ha : c.refs.all fun q => Nat.blt q s.cells.length with
            | false => rw [ha] at h; exact h _ H1 R1 p1 u ru
            | true =>
              rw [ha] at h
              obtain ⟨a, h1, h2⟩ := ru
              obtain ⟨R3, p3⟩ := rel_cut1 R0 R1 p1 lg hl hr' h1 hc (fun q hq => Nat.le_of_ble_eq_true (List.all_eq_true.mp ha q hq))
              refine h _ H1 R3 p3 u ⟨a, ?_, h2⟩
              rw [List.getElem?_append_right (by rw [List.length_take]; omega)]
              have : s.cells.length - (ι1.take s.cells.length).length = 0 := by rw [List.length_take]; omega
              rw [this]
              rfl
end
end PI
/-! PI4: the operators of the interpreter are those of the model. -/
namespace PI
open PySem PySem.Spec L2 PyProof.Rows
section
variable {w : Wd} {ι : List Addr} {H : Hp} {s : S} {W : Value → Option Addr → Hp → Prop} {Q : VK} {u : V} {v : Vl} {p : Addr} {us : List V}
theorem res_pure (h : ResG w ι H W (CQ w Q) ((M.pure v).run s)) (R : w.R ι s H) (r : RepV w.K ι H u v) : Q u H := h ι H R (Post.refl ι H) u r
theorem res_int {i : Int} (h : ResG w ι H W (CQ w Q) ((M.pure (.dat (.int i))).run s)) (R : w.R ι s H) : Q (.int i) H := res_pure h R (repv_int.mpr rfl)
theorem res_bl {i : Bool} (h : ResG w ι H W (CQ w Q) ((M.pure (.dat (.bl i))).run s)) (R : w.R ι s H) : Q (.bl i) H := res_pure h R (repv_bl.mpr rfl)
theorem res_str {i : Str} (h : ResG w ι H W (CQ w Q) ((M.pure (.dat (.str i))).run s)) (R : w.R ι s H) : Q (.str i) H := res_pure h R (repv_str.mpr rfl)
theorem res_non (h : ResG w ι H W (CQ w Q) ((M.pure (.dat .non)).run s)) (R : w.R ι s H) : Q .non H := res_pure h R (repv_non.mpr rfl)
/-- a new tuple -/
theorem res_tup {ds : List D} (h : ResG w ι H W (CQ w Q) ((M.pure (.dat (.tup ds))).run s)) (R : w.R ι s H) (hp : H p = none) (r : Paired (fun u (d : D) => Dp w.K H u d.py) us ds) : Q (.ref p) (L2.upd H p (.tup us)) :=
  h ι _ (R.fresh hp) (Post.fresh hp) _ (RepV.tup_of (.inl (.inl upd_same)) (pr_mono r fun u d _ q => dp_mono (Post.fresh (ι := ι) hp).tup d u q))
theorem alloc_rep {c : Cell} : ((alloc c).run s) = .ok (.ref s.cells.length) ⟨s.cells ++ [c], s.log⟩ := rfl
/-- a new cell -/
theorem res_alloc {c : Cell} {o : HO} (h : ResG w ι H W (CQ w Q) ((alloc c).run s)) (R : w.R ι s H) (hp : H p = none) (hc : CellOk w.K w.cl (ι ++ [p]) (L2.upd H p o) p c) : Q (.ref p) (L2.upd H p o) := by
  refine h (ι ++ [p]) _ (R.push hp hc) (post_new hp) _ ⟨p, ?_, rfl⟩
  rw [← R.len]
  simp
theorem res_lst {xs : List Vl} (h : ResG w ι H W (CQ w Q) ((alloc (.lst xs)).run s)) (R : w.R ι s H) (hp : H p = none) (r : RepVs w.K ι H us xs) : Q (.ref p) (L2.upd H p (.lst us)) :=
  res_alloc h R hp ⟨us, upd_same, RepVs.mono (post_new hp) r⟩
theorem res_bad (h : ResG w ι H W (CQ w Q) ((M.bad : M Vl).run s)) : False := h
/-- a condition holds -/
theorem res_iff {c : Prop} [Decidable c] {m : M Vl} (h : ResG w ι H W (CQ w Q) ((M.iff c m).run s)) : c ∧ ResG w ι H W (CQ w Q) (m.run s) := by
  by_cases hc : c
  · rw [M.iff_pos hc] at h; exact ⟨hc, h⟩
  · rw [M.iff_neg hc] at h; exact absurd h id
theorem res_iffP {α : Type} {C : α → S → List Addr → Hp → Prop} {c : Prop} [Decidable c] {m : M α} (h : ResG w ι H W C ((M.iff c m).run s)) : c ∧ ResG w ι H W C (m.run s) := by
  by_cases hc : c
  · rw [M.iff_pos hc] at h; exact ⟨hc, h⟩
  · rw [M.iff_neg hc] at h; exact absurd h id
/-- a cell is there -/
theorem res_get {n : Nat} {α : Type} {f : Cell → M α} {C : α → S → List Addr → Hp → Prop} (h : ResG w ι H W C ((M.bind (get n) f).run s)) : ∃ c, s.cells[n]? = some c ∧ ResG w ι H W C ((f c).run s) := by
  rw [run_mbind] at h
  cases e : s.cells[n]? with
  | none =>
    have : (get n).run s = .bad := by
      show (match s.cells[n]? with
        | some c => R.ok c s
        | none => .bad) = _
      rw [e]
    rw [this] at h
    exact absurd h id
  | some c =>
    rw [run_get e] at h
    exact ⟨c, rfl, h⟩
theorem res_upd {n : Nat} {β : Type} {U : Upd β} {C : β → S → List Addr → Hp → Prop} (h : ResG w ι H W C ((updC n U).run s)) :
    ∃ c c' x, s.cells[n]? = some c ∧ U.f c = some (c', x) ∧ ResG w ι H W C (.ok x ⟨s.cells.set n c', U.extra.map (fun r => (n, r)) ++ s.log⟩) := by
  have e : (updC n U).run s = (match s.cells[n]? with
    | some c => match U.f c with
      | some (c', x) => .ok x ⟨s.cells.set n c', U.extra.map (fun r => (n, r)) ++ s.log⟩
      | none => .bad
    | none => .bad) := rfl
  rw [e] at h
  cases e3 : s.cells[n]? with
  | none => rw [e3] at h; exact absurd h id
  | some c =>
    rw [e3] at h
    simp only [] at h
    cases e4 : U.f c with
    | none => rw [e4] at h; exact absurd h id
    | some pr =>
      obtain ⟨c3, x3⟩ := pr
      rw [e4] at h
      exact ⟨c, c3, x3, rfl, e4, h⟩
theorem res_of {α β : Type} {o : Option α} {f : α → M β} {C : β → S → List Addr → Hp → Prop} (h : ResG w ι H W C ((M.bind (M.of o) f).run s)) : ∃ a, o = some a ∧ ResG w ι H W C ((f a).run s) := by
  cases o with
  | none => exact absurd h id
  | some a => exact ⟨a, rfl, h⟩
theorem ref_cell {n : Nat} (R : w.R ι s H) {c : Cell} (r : RepV w.K ι H u (.ref n)) (e : s.cells[n]? = some c) : ∃ a, u = .ref a ∧ ι[n]? = some a ∧ CellOk w.K w.cl ι H a c := by
  obtain ⟨a, h1, h2⟩ := r
  exact ⟨a, h2, h1, R.cell n a c h1 e⟩
theorem repvs_ints (ns : List Int) : RepVs w.K ι H (ns.map V.int) (intsV ns) := by
  induction ns with
  | nil => exact .nil
  | cons n ns ih => exact .cons (repv_int.mpr rfl) ih
theorem repvs_dats {ds : List D} : ∀ {vs : List Vl} {us : List V}, dats vs = some ds → RepVs w.K ι H us vs → Paired (fun u (d : D) => Dp w.K H u d.py) us ds := by
  intro vs
  induction vs generalizing ds with
  | nil => intro us h r; cases h; cases r; exact .nil
  | cons v vs ih =>
    intro us h r
    cases r with
    | cons r1 r2 =>
      cases v with
      | ref n => cases h
      | dat d =>
        have h' : (dats vs).map (d :: ·) = some ds := h
        cases e : dats vs with
        | none => rw [e] at h'; cases h'
        | some es =>
          rw [e] at h'
          cases h'
          exact .cons r1 (ih e r2)
theorem repvs_of_dats {ds : List D} {us : List V} (h : Paired (fun u (d : D) => Dp w.K H u d.py) us ds) : RepVs w.K ι H us (ds.map .dat) := pr_mapr h fun _ _ r => r
/-- what seqM reads: a tuple, a list -/
theorem res_seq {α : Type} {f : List Vl → M α} {C : α → S → List Addr → Hp → Prop} (R : w.R ι s H) (r : RepV w.K ι H u v) (h : ResG w ι H W C ((M.bind (seqM v) f).run s)) :
    ∃ a xs vs, u = .ref a ∧ (SqL w.K H a xs ∨ SqT w.K H a xs) ∧ RepVs w.K ι H xs vs ∧ ResG w ι H W C ((f vs).run s) := by
  cases v with
  | dat d =>
    cases d with
    | tup ds =>
      obtain ⟨a, xs, h1, h2, h3⟩ := r.tup_inv
      exact ⟨a, xs, ds.map .dat, h1, .inr h2, repvs_of_dats h3, h⟩
    | _ => exact absurd h id
  | ref n =>
    have h' : ResG w ι H W C ((M.bind (M.bind (get n) fun c => (match c with
      | .lst xs => M.pure xs
      | .rol xs => M.pure (intsV xs)
      | _ => M.bad)) f).run s) := h
    have h2 := res_get (f := fun c => M.bind (match c with
      | .lst xs => M.pure xs
      | .rol xs => M.pure (intsV xs)
      | _ => M.bad) f) (by
        rw [run_mbind, run_mbind] at h'
        rw [run_mbind]
        cases e : (get n).run s with
        | ok a s1 => rw [e] at h'; exact h'
        | exc a s1 => rw [e] at h'; exact h'
        | bad => rw [e] at h'; exact h')
    obtain ⟨c, hc, h3⟩ := h2
    obtain ⟨a, ha, hn, hk⟩ := ref_cell R r hc
    cases c with
    | lst xs => obtain ⟨us, k1, k2⟩ := hk; exact ⟨a, us, xs, ha, .inl (SqL.of k1), k2, h3⟩
    | rol ns => exact ⟨a, _, _, ha, .inl hk, repvs_ints ns, h3⟩
    | dct kvs => exact absurd h3 id
    | ins c fs => exact absurd h3 id
end

/-- an operator of two values -/
def rOp (w : Wd) (W : Value → Option Addr → Hp → Prop) (m : Vl → Vl → M Vl) : R2 := fun x y H Q => ∃ ι s v v', w.R ι s H ∧ RepV w.K ι H x v ∧ RepV w.K ι H y v' ∧ ResG w ι H W (CQ w Q) ((m v v').run s)
section
variable {w : Wd} {W : Value → Option Addr → Hp → Prop} {X : Cx}
theorem opr_imp {f : Value → Value → Sem Value} {r r' : R2} (h : OpR X f r) (g : ∀ x y H Q, r' x y H Q → r x y H Q) : OpR X f r' := fun pins s σ H x y v u Q I rx ry q => h pins s σ H x y v u Q I rx ry (g x y H Q q)
theorem opr_or {f : Value → Value → Sem Value} {r r' : R2} (h : OpR X f r) (h' : OpR X f r') : OpR X f (fun x y H Q => r x y H Q ∨ r' x y H Q) := fun pins s σ H x y v u Q I rx ry q => q.elim (h pins s σ H x y v u Q I rx ry) (h' pins s σ H x y v u Q I rx ry)
theorem opr_add (hK : X.K = w.K) : OpR X (binaryOp .Add) (rOp w W (binM .add)) := by
  obtain ⟨K, cl, xa⟩ := w
  subst hK
  refine opr_imp (opr_or (opr_or op_add op_add_str) (opr_or op_catA op_cat)) ?_
  rintro x y H Q ⟨ι, s, v, v', R, r1, r2, h⟩
  cases v with
  | dat d =>
    cases v' with
    | ref n => cases d <;> exact absurd h id
    | dat d' =>
      cases d with
      | int i =>
        cases d' with
        | int j => exact .inl (.inl ⟨i, j, repv_int.mp r1, repv_int.mp r2, res_int h R⟩)
        | _ => exact absurd h id
      | str i =>
        cases d' with
        | str j =>
          obtain ⟨hz, h⟩ := res_iff h
          exact .inl (.inr ⟨i, j, repv_str.mp r1, repv_str.mp r2, hz, res_str h R⟩)
        | _ => exact absurd h id
      | tup i =>
        cases d' with
        | tup j =>
          obtain ⟨hz, h⟩ := res_iff h
          obtain ⟨a, xs, e1, q1, p1⟩ := r1.tup_inv
          obtain ⟨b, ys, e2, q2, p2⟩ := r2.tup_inv
          refine .inr (.inl ⟨a, b, xs, ys, e1, e2, q1, q2, by rw [p1.length, p2.length]; exact hz, fun e0 => ?_, fun e0 e3 => ?_, fun _ _ p hp => ?_⟩)
          · subst e0
            cases p1
            exact res_pure h R (RepV.tup_of q2 p2)
          · subst e3
            cases p2
            rw [List.append_nil] at h
            exact res_pure h R (RepV.tup_of q1 p1)
          · exact res_tup h R hp (pr_append p1 p2)
        | _ => exact absurd h id
      | non => cases d' <;> exact absurd h id
      | bl i => cases d' <;> exact absurd h id
  | ref n =>
    cases v' with
    | dat d' => cases d' <;> exact absurd h id
    | ref m =>
      obtain ⟨c, hc, h⟩ := res_get h
      obtain ⟨d, hd, h⟩ := res_get h
      obtain ⟨a, e1, n1, k1⟩ := ref_cell R r1 hc
      obtain ⟨b, e2, n2, k2⟩ := ref_cell R r2 hd
      cases c with
      | lst xs =>
        cases d with
        | lst ys =>
          obtain ⟨hz, h⟩ := res_iff h
          obtain ⟨us, g1, p1⟩ := k1
          obtain ⟨vs, g2, p2⟩ := k2
          exact .inr (.inr ⟨a, b, us, vs, e1, e2, g1, g2, by rw [p1.length, p2.length]; exact hz, fun p hp => res_lst h R hp (pr_append p1 p2)⟩)
        | _ => exact absurd h id
      | _ => cases d <;> exact absurd h id
/-- an operator of ints alone -/
theorem opr_int {o : Bop} {op : Operator} {r : R2} (h : OpR X (binaryOp op) r) (hK : X.K = w.K)
    (hi : ∀ ι s H Q i j, w.R ι s H → ResG w ι H W (CQ w Q) ((binI o i j).run s) → r (.int i) (.int j) H Q) (no : o ≠ .add) : OpR X (binaryOp op) (rOp w W (binM o)) := by
  refine opr_imp h ?_
  rintro x y H Q ⟨ι, s, v, v', R, r1, r2, h⟩
  cases v with
  | dat d =>
    cases v' with
    | ref n => cases d <;> exact absurd h id
    | dat d' =>
      cases d with
      | int i =>
        cases d' with
        | int j =>
          rw [repv_int.mp r1, repv_int.mp r2]
          exact hi ι s H Q i j R h
        | _ => exact absurd h id
      | str i =>
        cases d' with
        | str j => cases o <;> first | exact absurd rfl no | exact absurd h id
        | _ => exact absurd h id
      | tup i =>
        cases d' with
        | tup j => cases o <;> first | exact absurd rfl no | exact absurd h id
        | _ => exact absurd h id
      | non => cases d' <;> exact absurd h id
      | bl i => cases d' <;> exact absurd h id
  | ref n =>
    cases v' with
    | dat d' => cases d' <;> exact absurd h id
    | ref m => cases o <;> first | exact absurd rfl no | exact absurd h id
theorem opr_sub (hK : X.K = w.K) : OpR X (binaryOp .Sub) (rOp w W (binM .sub)) := opr_int op_sub hK (fun ι s H Q i j R h => ⟨i, j, rfl, rfl, res_int h R⟩) (by decide)
theorem opr_mul (hK : X.K = w.K) : OpR X (binaryOp .Mult) (rOp w W (binM .mul)) := opr_int op_mul hK (fun ι s H Q i j R h => by
  obtain ⟨c, h⟩ := res_iff h
  exact ⟨i, j, rfl, rfl, c, res_int h R⟩) (by decide)
theorem opr_fdiv (hK : X.K = w.K) : OpR X (binaryOp .FloorDiv) (rOp w W (binM .fdiv)) := opr_int op_fdiv hK (fun ι s H Q i j R h => by
  obtain ⟨c, h⟩ := res_iff h
  exact ⟨i, j, rfl, rfl, c, res_int h R⟩) (by decide)
theorem opr_mod (hK : X.K = w.K) : OpR X (binaryOp .Mod) (rOp w W (binM .mod)) := opr_int op_mod hK (fun ι s H Q i j R h => by
  obtain ⟨c, h⟩ := res_iff h
  exact ⟨i, j, rfl, rfl, c, res_int h R⟩) (by decide)
theorem opr_pow (hK : X.K = w.K) : OpR X (binaryOp .Pow) (rOp w W (binM .pow)) := opr_int op_pow hK (fun ι s H Q i j R h => by
  obtain ⟨c, h⟩ := res_iff h
  exact ⟨i, j, rfl, rfl, c, res_int h R⟩) (by decide)
def bopOf : Operator → Option Bop
  | .Add => some .add
  | .Sub => some .sub
  | .Mult => some .mul
  | .FloorDiv => some .fdiv
  | .Mod => some .mod
  | .Pow => some .pow
  | _ => none
theorem opr_bin {op : Operator} {o : Bop} (hK : X.K = w.K) (h : bopOf op = some o) : OpR X (binaryOp op) (rOp w W (binM o)) := by
  cases op <;> first | (cases h; done) | cases h
  · exact opr_add hK
  · exact opr_sub hK
  · exact opr_mul hK
  · exact opr_mod hK
  · exact opr_pow hK
  · exact opr_fdiv hK

/-! ### comparisons -/
theorem mapM_some {α β : Type} {f : α → Option β} : ∀ {xs : List α} {ys : List β}, xs.mapM f = some ys → Paired (fun x y => f x = some y) xs ys
  | [], ys, h => by simp at h; rw [h]; exact .nil
  | x :: xs, ys, h => by
    rw [List.mapM_cons] at h
    cases e : f x with
    | none => rw [e] at h; cases h
    | some y =>
      rw [e] at h
      cases e2 : xs.mapM f with
      | none => rw [e2] at h; cases h
      | some zs =>
        rw [e2] at h
        cases h
        exact .cons e (mapM_some e2)
theorem dpAll_pr {K : PySem.W.Frag} {H : Hp} : ∀ {us : List V} {ps : List PyData}, Paired (fun u p => Dp K H u p) us ps → DpAll K H us ps
  | _, _, .nil => .nil
  | _, _, .cons r t => .cons r (dpAll_pr t)
theorem pr_comp {α β γ : Type} {F : α → β → Prop} {G : β → γ → Prop} {R : α → γ → Prop} (h : ∀ a b c, F a b → G b c → R a c) : ∀ {xs : List α} {ys : List β} {zs : List γ}, Paired F xs ys → Paired G ys zs → Paired R xs zs
  | _, _, _, .nil, .nil => .nil
  | _, _, _, .cons r t, .cons r' t' => .cons (h _ _ _ r r') (pr_comp h t t')
theorem pyV_dp {K : PySem.W.Frag} {cl : Nat → Addr} {ι : List Addr} {cs : List Cell} {H : Hp} (R : Rel K cl ι cs H) : ∀ (n : Nat) (v : Vl) (u : V) (p : PyData), RepV K ι H u v → pyV cs n v = some p → Dp K H u p
  | n, .dat d, u, p, r, h => by
    have h' : some d.py = some p := by cases n <;> exact h
    cases h'
    exact r
  | 0, .ref m, u, p, r, h => by cases h
  | n + 1, .ref m, u, p, r, h => by
    obtain ⟨a, h1, h2⟩ := r
    have h' : (match cs[m]? with
      | some (.lst xs) => (xs.mapM (pyV cs n)).map .list
      | some (.rol xs) => some (.list (xs.map .int))
      | _ => none) = some p := h
    cases e : cs[m]? with
    | none => rw [e] at h'; cases h'
    | some c =>
      rw [e] at h'
      have hc := R.cell m a c h1 e
      subst h2
      cases c with
      | lst xs =>
        obtain ⟨us, k1, k2⟩ := hc
        have h2 : (xs.mapM (pyV cs n)).map PyData.list = some p := h'
        cases e2 : xs.mapM (pyV cs n) with
        | none => rw [e2] at h2; cases h2
        | some ps =>
          rw [e2] at h2
          cases h2
          exact .lst (SqL.of k1) (dpAll_pr (pr_comp (fun a b c r1 r2 => pyV_dp R n b a c r1 r2) k2 (mapM_some e2)))
      | rol ns =>
        have h2 : some (PyData.list (ns.map .int)) = some p := h'
        cases h2
        refine .lst hc (dpAll_pr ?_)
        clear h h' e hc
        induction ns with
        | nil => exact .nil
        | cons i ns ih => exact .cons (.int i) ih
      | dct kvs => cases h'
      | ins c fs => cases h'
theorem res_py {ι : List Addr} {H : Hp} {s : S} {v : Vl} {α : Type} {f : PyData → M α} {C : α → S → List Addr → Hp → Prop} (h : ResG w ι H W C ((M.bind (pyM v) f).run s)) : ∃ p, pyV s.cells 4 v = some p ∧ ResG w ι H W C ((f p).run s) := by
  rw [run_mbind] at h
  have e : (pyM v).run s = (match pyV s.cells 4 v with
    | some p => .ok p s
    | none => .bad) := rfl
  rw [e] at h
  cases e2 : pyV s.cells 4 v with
  | none => rw [e2] at h; exact absurd h id
  | some p => rw [e2] at h; exact ⟨p, rfl, h⟩
theorem res_chk {ι : List Addr} {H : Hp} {s : S} {b : Bool} {α : Type} {f : Unit → M α} {C : α → S → List Addr → Hp → Prop} (h : ResG w ι H W C ((M.bind (chk b) f).run s)) : b = true ∧ ResG w ι H W C ((f ()).run s) := by
  cases b with
  | false => exact absurd h id
  | true => exact ⟨rfl, h⟩
theorem mbind_assoc {α β γ : Type} (m : M α) (f : α → M β) (g : β → M γ) : M.bind (M.bind m f) g = M.bind m fun x => M.bind (f x) g := M.ext fun s => by
  rw [run_mbind, run_mbind, run_mbind]
  cases m.run s <;> rfl
/-- ==: of scalars, or of data of any depth -/
theorem res_eq {ι : List Addr} {H : Hp} {s : S} {x y : V} {v v' : Vl} {α : Type} {f : Bool → M α} {C : α → S → List Addr → Hp → Prop} (R : w.R ι s H) (r1 : RepV w.K ι H x v) (r2 : RepV w.K ι H y v')
    (h : ResG w ι H W C ((M.bind (eqM v v') f).run s)) :
    (scal x y = true ∧ ResG w ι H W C ((f (decide (x = y))).run s)) ∨ (∃ p q, Dp w.K H x p ∧ Dp w.K H y q ∧ SeqAt.shaped p = true ∧ SeqAt.shaped q = true ∧ ResG w ι H W C ((f (PyData.eqv p q)).run s)) := by
  unfold eqM at h
  split at h
  · rename_i i j
    rw [repv_int.mp r1, repv_int.mp r2]
    have h2 : ResG w ι H W C ((f (decide (i = j))).run s) := h
    have e : decide (V.int i = V.int j) = decide (i = j) := by simp
    exact .inl ⟨rfl, by rw [e]; exact h2⟩
  · rename_i i j
    rw [repv_str.mp r1, repv_str.mp r2]
    have h2 : ResG w ι H W C ((f (decide (i = j))).run s) := h
    have e : decide (V.str i = V.str j) = decide (i = j) := by simp
    exact .inl ⟨rfl, by rw [e]; exact h2⟩
  · rename_i i j
    rw [repv_bl.mp r1, repv_bl.mp r2]
    have h2 : ResG w ι H W C ((f (decide (i = j))).run s) := h
    have e : decide (V.bl i = V.bl j) = decide (i = j) := by simp
    exact .inl ⟨rfl, by rw [e]; exact h2⟩
  · rw [repv_non.mp r1, repv_non.mp r2]
    exact .inl ⟨rfl, by simpa using h⟩
  · rw [repv_non.mp r1, repv_int.mp r2]
    exact .inl ⟨rfl, by simpa using h⟩
  · rw [repv_int.mp r1, repv_non.mp r2]
    exact .inl ⟨rfl, by simpa using h⟩
  · refine .inr ?_
    have h1 : ResG w ι H W C ((M.bind (M.bind (pyM v) fun p => M.bind (pyM v') fun q => M.bind (chk (SeqAt.shaped p && SeqAt.shaped q)) fun _ => M.pure (PyData.eqv p q)) f).run s) := h
    rw [mbind_assoc] at h1
    obtain ⟨p, e1, h1⟩ := res_py h1
    rw [mbind_assoc] at h1
    obtain ⟨q, e2, h1⟩ := res_py h1
    rw [mbind_assoc] at h1
    obtain ⟨e3, h1⟩ := res_chk h1
    obtain ⟨e4, e5⟩ := Bool.and_eq_true_iff.mp e3
    exact ⟨p, q, pyV_dp R 4 v x p r1 e1, pyV_dp R 4 v' y q r2 e2, e4, e5, h1⟩
/-- a comparison as a value -/
def cmpV (o : Cop) (v v' : Vl) : M Vl := M.bind (cmpM o v v') fun k => M.pure (.dat (.bl k))
theorem cop_eq (hK : X.K = w.K) (hu : X.A.units + 65 < cLine) : OpR X (compareOp .Eq) (rOp w W (cmpV .eq)) := by
  obtain ⟨K, cl, xa⟩ := w
  subst hK
  refine opr_imp (opr_or op_eq (op_eqD (by omega))) ?_
  rintro x y H Q ⟨ι, s, v, v', R, r1, r2, h⟩
  rcases res_eq R r1 r2 (f := fun k => M.pure (Vl.dat (.bl k))) h with ⟨e, h⟩ | ⟨p, q, d1, d2, s1, s2, h⟩
  · exact .inl ⟨e, res_bl h R⟩
  · exact .inr ⟨p, q, d1, d2, s1, s2, res_bl h R⟩
theorem cop_ne (hK : X.K = w.K) (hu : X.A.units + 65 < cLine) : OpR X (compareOp .NotEq) (rOp w W (cmpV .ne)) := by
  obtain ⟨K, cl, xa⟩ := w
  subst hK
  refine opr_imp (opr_or op_ne (op_neD (by omega))) ?_
  rintro x y H Q ⟨ι, s, v, v', R, r1, r2, h⟩
  have h0 : ResG _ ι H W (CQ _ Q) ((M.bind (M.bind (eqM v v') fun k => M.pure (!k)) fun k => M.pure (Vl.dat (.bl k))).run s) := h
  rw [mbind_assoc] at h0
  rcases res_eq R r1 r2 h0 with ⟨e, h⟩ | ⟨p, q, d1, d2, s1, s2, h⟩
  · exact .inl ⟨e, res_bl h R⟩
  · exact .inr ⟨p, q, d1, d2, s1, s2, res_bl h R⟩
/-- an order of ints -/
theorem cop_lt {o : Cop} {op : CmpOp} {f : Int → Int → Bool} (h : OpR X (compareOp op) (rI0 fun i j => .bl (f i j))) (ho : ∀ v v', cmpM o v v' = ltI f v v') : OpR X (compareOp op) (rOp w W (cmpV o)) := by
  refine opr_imp h ?_
  rintro x y H Q ⟨ι, s, v, v', R, r1, r2, h⟩
  unfold cmpV at h
  rw [ho] at h
  unfold ltI at h
  split at h
  · exact ⟨_, _, repv_int.mp r1, repv_int.mp r2, res_bl h R⟩
  · exact absurd h id
theorem cop_is (hK : X.K = w.K) : OpR X (compareOp .Is) (rOp w W (cmpV .is)) := by
  intro pins s σ H x y v u Q I rx ry ⟨ι, s', a, b, R, r1, r2, h⟩
  have h0 : ResG w ι H W (CQ w Q) ((M.bind (isM a b) fun k => M.pure (Vl.dat (.bl k))).run s') := h
  unfold isM at h0
  split at h0
  · obtain rfl := repv_non.mp r1
    obtain rfl := repv_non.mp r2
    cases rx
    cases ry
    exact is_none_gen ⟨.bl true, H, I, rfl, res_bl h0 R⟩
  · rename_i d hd
    obtain rfl := repv_non.mp r2
    cases ry
    refine is_none_gen ⟨.bl false, H, I, ?_, res_bl h0 R⟩
    rw [rx.none_iff]
    have : x ≠ .non := fun z => by
      subst z
      cases d with
      | non => exact hd rfl
      | bl b => exact absurd (repv_bl.mp r1) (fun z => nomatch z)
      | int b => exact absurd (repv_int.mp r1) (fun z => nomatch z)
      | str b => exact absurd (repv_str.mp r1) (fun z => nomatch z)
      | tup l => obtain ⟨_, _, e, _⟩ := r1.tup_inv; cases e
    rw [decide_eq_false this]
    rfl
  · obtain rfl := repv_non.mp r2
    cases ry
    refine is_none_gen ⟨.bl false, H, I, ?_, res_bl h0 R⟩
    rw [rx.none_iff]
    obtain ⟨p, _, e⟩ := r1
    subst e
    rfl
  · exact op_is_bl pins s σ H x y v u Q I rx ry ⟨_, _, repv_bl.mp r1, repv_bl.mp r2, res_bl h0 R⟩
  · exact absurd h0 id
theorem cop_isnot (hK : X.K = w.K) : OpR X (compareOp .IsNot) (rOp w W (cmpV .isnot)) := by
  intro pins s σ H x y v u Q I rx ry ⟨ι, s', a, b, R, r1, r2, h⟩
  have h0 : ResG w ι H W (CQ w Q) ((M.bind (M.bind (isM a b) fun k => M.pure (!k)) fun k => M.pure (Vl.dat (.bl k))).run s') := h
  rw [mbind_assoc] at h0
  unfold isM at h0
  split at h0
  · obtain rfl := repv_non.mp r1
    obtain rfl := repv_non.mp r2
    cases rx
    cases ry
    exact isnot_none_gen ⟨.bl false, H, I, rfl, res_bl h0 R⟩
  · rename_i d hd
    obtain rfl := repv_non.mp r2
    cases ry
    refine isnot_none_gen ⟨.bl true, H, I, ?_, res_bl h0 R⟩
    rw [rx.none_iff]
    have : x ≠ .non := fun z => by
      subst z
      cases d with
      | non => exact hd rfl
      | bl b => exact absurd (repv_bl.mp r1) (fun z => nomatch z)
      | int b => exact absurd (repv_int.mp r1) (fun z => nomatch z)
      | str b => exact absurd (repv_str.mp r1) (fun z => nomatch z)
      | tup l => obtain ⟨_, _, e, _⟩ := r1.tup_inv; cases e
    rw [decide_eq_false this]
    rfl
  · obtain rfl := repv_non.mp r2
    cases ry
    refine isnot_none_gen ⟨.bl true, H, I, ?_, res_bl h0 R⟩
    rw [rx.none_iff]
    obtain ⟨p, _, e⟩ := r1
    subst e
    rfl
  · exact op_isnot_bl pins s σ H x y v u Q I rx ry ⟨_, _, repv_bl.mp r1, repv_bl.mp r2, res_bl h0 R⟩
  · exact absurd h0 id

theorem res_iffB {ι : List Addr} {H : Hp} {s : S} {c : Prop} [Decidable c] {α β : Type} {m : M α} {f : α → M β} {C : β → S → List Addr → Hp → Prop} (h : ResG w ι H W C ((M.bind (M.iff c m) f).run s)) : c ∧ ResG w ι H W C ((M.bind m f).run s) := by
  by_cases hc : c
  · rw [M.iff_pos hc] at h; exact ⟨hc, h⟩
  · rw [M.iff_neg hc] at h; exact absurd h id
def D.toV : D → V
  | .non => .non
  | .bl b => .bl b
  | .int i => .int i
  | .str s => .str s
  | .tup _ => .non
theorem dp_flat {K : PySem.W.Frag} {H : Hp} {u : V} {d : D} (h : Dp K H u d.py) (f : d.flat = true) : u = d.toV := by
  cases d with
  | tup l => cases f
  | non => exact repv_non (ι := []).mp h
  | bl b => exact repv_bl (ι := []).mp h
  | int b => exact repv_int (ι := []).mp h
  | str b => exact repv_str (ι := []).mp h
theorem flat_dp {K : PySem.W.Frag} {H : Hp} {u : V} {d : D} (h : Dp K H u d.py) (f : d.flat = true) : flatV u = true := by
  rw [dp_flat h f]
  cases d <;> first | rfl | cases f
theorem eqf_dp {K : PySem.W.Frag} {H : Hp} {x y : V} {a z : D} (ha : Dp K H x a.py) (hz : Dp K H y z.py) (fa : a.flat = true) (fz : z.flat = true) : eqV y x = z.eqf a := by
  rw [dp_flat ha fa, dp_flat hz fz]
  cases a <;> cases z <;> first | (cases fa; done) | (cases fz; done) | rfl
theorem in_dp {K : PySem.W.Frag} {H : Hp} {x : V} {a : D} (ha : Dp K H x a.py) (fa : a.flat = true) : ∀ {ys : List V} {ds : List D}, Paired (fun u (d : D) => Dp K H u d.py) ys ds → ds.all D.flat = true → ys.all flatV = true ∧ inV x ys = ds.any fun z => z.eqf a
  | _, _, .nil, _ => ⟨rfl, rfl⟩
  | _, _, .cons (a := y) (b := z) r t, h => by
    rw [List.all_cons, Bool.and_eq_true_iff] at h
    obtain ⟨i1, i2⟩ := in_dp ha fa t h.2
    refine ⟨by rw [List.all_cons, flat_dp r h.1, i1]; rfl, ?_⟩
    show (eqV y x || inV x _) = (z.eqf a || _)
    rw [i2, eqf_dp ha r fa h.1]
/-- in: a text in a text, a flat thing in a tuple of such, data in a list -/
def InIs (w : Wd) (ι : List Addr) (H : Hp) (x y : V) (k : Bool) : Prop :=
  (∃ i j, x = .str i ∧ y = .str j ∧ k = strIn i j) ∨
  (∃ p xs, y = .ref p ∧ SqT w.K H p xs ∧ flatV x = true ∧ xs.all flatV = true ∧ k = inV x xs) ∨
  (∃ d ds, Dp w.K H x d ∧ Dp w.K H y (.list ds) ∧ SeqAt.shaped d = true ∧ SeqAt.shaped (.list ds) = true ∧ k = ds.any fun z => PyData.eqv z d)
theorem res_in {ι : List Addr} {H : Hp} {s : S} {x y : V} {v v' : Vl} {α : Type} {f : Bool → M α} {C : α → S → List Addr → Hp → Prop} (R : w.R ι s H) (r1 : RepV w.K ι H x v) (r2 : RepV w.K ι H y v')
    (h : ResG w ι H W C ((M.bind (inM v v') f).run s)) : ∃ k, InIs w ι H x y k ∧ ResG w ι H W C ((f k).run s) := by
  unfold inM at h
  split at h
  · exact ⟨_, .inl ⟨_, _, repv_str.mp r1, repv_str.mp r2, rfl⟩, h⟩
  · rename_i a ds
    obtain ⟨⟨fa, fs⟩, h⟩ := res_iffB h
    obtain ⟨p, xs, e, q, pr⟩ := r2.tup_inv
    obtain ⟨i1, i2⟩ := in_dp r1 fa pr fs
    exact ⟨_, .inr (.inl ⟨p, xs, e, q, flat_dp r1 fa, i1, rfl⟩), by rw [i2]; exact h⟩
  · exact absurd h id
  · rename_i n
    have h1 : ResG w ι H W C ((M.bind (M.bind (get n) fun c => (match c with
      | .dct kvs => (match v with
        | .dat k => M.pure (look kvs k).isSome
        | _ => M.bad)
      | .ins _ _ => M.bad
      | _ => M.bind (pyM v) fun p => M.bind (pyM (.ref n)) fun q => M.bind (chk (SeqAt.shaped p && SeqAt.shaped q)) fun _ => match q with
        | .list zs => M.pure (zs.any fun z => PyData.eqv z p)
        | _ => M.bad)) f).run s) := h
    rw [mbind_assoc] at h1
    obtain ⟨c, hc, h1⟩ := res_get h1
    have fin : ResG w ι H W C ((M.bind (M.bind (pyM v) fun p => M.bind (pyM (.ref n)) fun q => M.bind (chk (SeqAt.shaped p && SeqAt.shaped q)) fun _ => match q with
        | .list zs => M.pure (zs.any fun z => PyData.eqv z p)
        | _ => M.bad) f).run s) → ∃ k, InIs w ι H x y k ∧ ResG w ι H W C ((f k).run s) := fun h1 => by
      rw [mbind_assoc] at h1
      obtain ⟨p, e1, h1⟩ := res_py h1
      rw [mbind_assoc] at h1
      obtain ⟨q, e2, h1⟩ := res_py h1
      rw [mbind_assoc] at h1
      obtain ⟨e3, h1⟩ := res_chk h1
      obtain ⟨e4, e5⟩ := Bool.and_eq_true_iff.mp e3
      have d1 := pyV_dp R 4 v x p r1 e1
      have d2 := pyV_dp R 4 (.ref n) y q r2 e2
      cases q with
      | list zs => exact ⟨_, .inr (.inr ⟨p, zs, d1, d2, e4, e5, rfl⟩), h1⟩
      | _ => exact absurd h1 id
    obtain ⟨a, _, _, k⟩ := ref_cell R r2 hc
    cases c with
    | lst xs => exact fin h1
    | rol xs => exact fin h1
    | dct kvs => exact absurd k id
    | ins c fs => exact absurd h1 id
theorem cop_in (hK : X.K = w.K) (hu : X.A.units + 65 < cLine) : OpR X (compareOp .In) (rOp w W (cmpV .isin)) := by
  obtain ⟨K, cl, xa⟩ := w
  subst hK
  refine opr_imp (opr_or op_in_str (opr_or op_in_seq (op_inD hu))) ?_
  rintro x y H Q ⟨ι, s, v, v', R, r1, r2, h⟩
  obtain ⟨k, hk, h⟩ := res_in (f := fun k => M.pure (Vl.dat (.bl k))) R r1 r2 h
  rcases hk with ⟨i, j, e1, e2, rfl⟩ | ⟨p, xs, e1, q, f1, f2, rfl⟩ | ⟨d, ds, d1, d2, s1, s2, rfl⟩
  · exact .inl ⟨i, j, e1, e2, res_bl h R⟩
  · exact .inr (.inl ⟨p, xs, e1, .inr q, f1, f2, res_bl h R⟩)
  · exact .inr (.inr ⟨d, ds, d1, d2, s1, s2, res_bl h R⟩)
theorem cop_notin (hK : X.K = w.K) (hu : X.A.units + 65 < cLine) : OpR X (compareOp .NotIn) (rOp w W (cmpV .notin)) := by
  obtain ⟨K, cl, xa⟩ := w
  subst hK
  refine opr_imp (opr_or op_notIn_str (opr_or op_notIn_seq (op_notInD hu))) ?_
  rintro x y H Q ⟨ι, s, v, v', R, r1, r2, h⟩
  have h0 : ResG _ ι H W (CQ _ Q) ((M.bind (M.bind (inM v v') fun k => M.pure (!k)) fun k => M.pure (Vl.dat (.bl k))).run s) := h
  rw [mbind_assoc] at h0
  obtain ⟨k, hk, h⟩ := res_in R r1 r2 h0
  rcases hk with ⟨i, j, e1, e2, rfl⟩ | ⟨p, xs, e1, q, f1, f2, rfl⟩ | ⟨d, ds, d1, d2, s1, s2, rfl⟩
  · exact .inl ⟨i, j, e1, e2, res_bl h R⟩
  · exact .inr (.inl ⟨p, xs, e1, .inr q, f1, f2, res_bl h R⟩)
  · exact .inr (.inr ⟨d, ds, d1, d2, s1, s2, res_bl h R⟩)
def copOf : CmpOp → Cop
  | .Eq => .eq
  | .NotEq => .ne
  | .Lt => .lt
  | .LtE => .le
  | .Gt => .gt
  | .GtE => .ge
  | .Is => .is
  | .IsNot => .isnot
  | .In => .isin
  | .NotIn => .notin
theorem cop_any {op : CmpOp} (hK : X.K = w.K) (hu : X.A.units + 65 < cLine) : OpR X (compareOp op) (rOp w W (cmpV (copOf op))) := by
  cases op with
  | Eq => exact cop_eq hK hu
  | NotEq => exact cop_ne hK hu
  | Lt => exact cop_lt op_lt fun _ _ => rfl
  | LtE => exact cop_lt op_le fun _ _ => rfl
  | Gt => exact cop_lt op_gt fun _ _ => rfl
  | GtE => exact cop_lt op_ge fun _ _ => rfl
  | Is => exact cop_is hK
  | IsNot => exact cop_isnot hK
  | In => exact cop_in hK hu
  | NotIn => exact cop_notin hK hu
end
end PI
/-! PI5: truth, subscripts, slices, built-ins by values. -/
namespace PI
open PySem PySem.Spec L2 PyProof.Rows
section
variable {w : Wd} {ι : List Addr} {H : Hp} {s : S} {W : Value → Option Addr → Hp → Prop} {Q : VK} {u : V} {v : Vl} {p : Addr} {us : List V} {X : Cx}
theorem isEmpty_pr {α β : Type} {F : α → β → Prop} {a : List α} {b : List β} (h : Paired F a b) : a.isEmpty = b.isEmpty := by cases h <;> rfl
theorem res_tru {α : Type} {f : Bool → M α} {C : α → S → List Addr → Hp → Prop} (R : w.R ι s H) (r : RepV w.K ι H u v) (h : ResG w ι H W C ((M.bind (truM v) f).run s)) : ∃ k, TruV w.K u H k ∧ ResG w ι H W C ((f k).run s) := by
  cases v with
  | dat d =>
    cases d with
    | non => rw [repv_non.mp r]; exact ⟨false, rfl, h⟩
    | bl b => rw [repv_bl.mp r]; exact ⟨b, rfl, h⟩
    | int i => rw [repv_int.mp r]; exact ⟨_, rfl, h⟩
    | str x =>
      rw [repv_str.mp r]
      obtain ⟨hz, h⟩ := res_iffB h
      exact ⟨_, ⟨hz, rfl⟩, h⟩
    | tup l =>
      obtain ⟨a, xs, e, q, pr⟩ := r.tup_inv
      subst e
      refine ⟨!l.isEmpty, .inr (.inl ⟨xs, q, ?_⟩), h⟩
      rw [isEmpty_pr pr]
  | ref n =>
    have h1 : ResG w ι H W C ((M.bind (M.bind (get n) fun c => (match c with
      | .lst xs => M.pure (!xs.isEmpty)
      | .rol xs => M.pure (!xs.isEmpty)
      | _ => M.bad)) f).run s) := h
    rw [mbind_assoc] at h1
    obtain ⟨c, hc, h1⟩ := res_get h1
    obtain ⟨a, e, n1, k⟩ := ref_cell R r hc
    subst e
    cases c with
    | lst xs =>
      obtain ⟨us, k1, k2⟩ := k
      exact ⟨!xs.isEmpty, .inl ⟨us, SqL.of k1, by rw [isEmpty_pr k2]⟩, h1⟩
    | rol ns =>
      refine ⟨!ns.isEmpty, .inl ⟨_, k, ?_⟩, h1⟩
      cases ns <;> rfl
    | dct kvs => exact absurd h1 id
    | ins c fs => exact absurd h1 id
/-! ### a[i] -/
theorem atI_pr {α β : Type} {F : α → β → Prop} {a : List α} {b : List β} {i : Int} {y : β} (h : Paired F a b) (e : atI b i = some y) : ∃ x, atI a i = some x ∧ F x y := by
  unfold atI at e ⊢
  rw [h.length]
  cases q : ixN b.length i with
  | none => rw [q] at e; cases e
  | some j =>
    rw [q] at e
    have e' : b[j]? = some y := e
    obtain ⟨x, h1, h2⟩ := pr_get h e'
    exact ⟨x, h1, h2⟩
theorem ixr_imp {r r' : R2} (h : IxR X r) (g : ∀ x y H Q, r' x y H Q → r x y H Q) : IxR X r' := fun value slice pins s σ H x y v u Q I rx ry q hs => h value slice pins s σ H x y v u Q I rx ry (g x y H Q q) hs
theorem ixr (hK : X.K = w.K) : IxR X (rOp w W ixM) := by
  obtain ⟨K, cl, xa⟩ := w
  subst hK
  refine ixr_imp ix_seq ?_
  rintro x y H Q ⟨ι, s, v, v', R, r1, r2, h⟩
  cases v' with
  | ref n => exact absurd h id
  | dat d =>
    cases d with
    | int i =>
      rw [repv_int.mp r2]
      cases v with
      | dat d =>
        cases d with
        | str z =>
          obtain ⟨hz, h⟩ := res_iff h
          obtain ⟨c, hc, h⟩ := res_of h
          exact .inr (.inr ⟨z, i, c, repv_str.mp r1, rfl, hz, hc, res_str h R⟩)
        | tup ds =>
          obtain ⟨d, hd, h⟩ := res_of h
          obtain ⟨a, xs, e, q, pr⟩ := r1.tup_inv
          obtain ⟨z, hz, rz⟩ := atI_pr pr hd
          exact .inr (.inl ⟨a, xs, i, z, e, rfl, q, hz, res_pure h R rz⟩)
        | _ => exact absurd h id
      | ref n =>
        have h1 : ResG _ ι H W (CQ _ Q) ((M.bind (get n) fun c => (match c with
          | .lst xs => M.of (atI xs i)
          | .rol xs => M.of (atI (intsV xs) i)
          | .dct kvs => M.of (look kvs (.int i))
          | _ => M.bad)).run s) := h
        obtain ⟨c, hc, h1⟩ := res_get h1
        obtain ⟨a, e, n1, k⟩ := ref_cell R r1 hc
        cases c with
        | lst xs =>
          obtain ⟨us, k1, k2⟩ := k
          have h1 : ResG _ ι H W (CQ _ Q) ((M.of (atI xs i)).run s) := h1
          cases q : atI xs i with
          | none => rw [q] at h1; exact absurd h1 id
          | some b =>
            rw [q] at h1
            obtain ⟨z, hz, rz⟩ := atI_pr k2 q
            exact .inl ⟨a, us, i, z, e, rfl, SqL.of k1, hz, res_pure (v := b) h1 R rz⟩
        | rol ns =>
          have h1 : ResG _ ι H W (CQ _ Q) ((M.of (atI (intsV ns) i)).run s) := h1
          cases q : atI (intsV ns) i with
          | none => rw [q] at h1; exact absurd h1 id
          | some b =>
            rw [q] at h1
            obtain ⟨z, hz, rz⟩ := atI_pr (repvs_ints (w := ⟨X.K, cl, xa⟩) (ι := ι) (H := H) ns) q
            exact .inl ⟨a, _, i, z, e, rfl, k, hz, res_pure (v := b) h1 R rz⟩
        | dct kvs => exact absurd k id
        | ins c fs => exact absurd h1 id
    | _ =>
      cases v with
      | dat d => cases d <;> exact absurd h id
      | ref n =>
        obtain ⟨c, hc, h1⟩ := res_get (f := fun c => (match c with
          | .dct kvs => M.of (look kvs _)
          | _ => M.bad)) h
        obtain ⟨a, e, n1, k⟩ := ref_cell R r1 hc
        cases c with
        | dct kvs => exact absurd k id
        | _ => exact absurd h1 id
/-! ### a[lo:hi] -/
theorem slr_imp {r r' : V → Option Int → Option Int → Hp → VK → Prop} (h : SlR X r) (g : ∀ x lo hi H Q, r' x lo hi H Q → r x lo hi H Q) : SlR X r' := fun pins s σ H x v vl vu lo hi sl Q I rx hs pl pu q => h pins s σ H x v vl vu lo hi sl Q I rx hs pl pu (g x lo hi H Q q)
def rSlO (w : Wd) (W : Value → Option Addr → Hp → Prop) : V → Option Int → Option Int → Hp → VK → Prop := fun x lo hi H Q => ∃ ι s v, w.R ι s H ∧ RepV w.K ι H x v ∧ ResG w ι H W (CQ w Q) ((slO v lo hi).run s)
theorem cut_pr {F : V → β → Prop} {xs : List V} {ds : List β} {lo hi : Option Int} (h : Paired F xs ds) : Paired F (cutV xs lo hi) (cutL ds lo hi) := by
  unfold cutV cutL
  rw [h.length]
  exact pr_take _ (pr_drop _ h)
theorem slr (hK : X.K = w.K) : SlR X (rSlO w W) := by
  obtain ⟨K, cl, xa⟩ := w
  subst hK
  refine slr_imp (SlR.or sl_str (SlR.or sl_tupA sl_list)) ?_
  rintro x lo hi H Q ⟨ι, s, v, R, r1, h⟩
  cases v with
  | dat d =>
    cases d with
    | str z =>
      obtain ⟨hz, h⟩ := res_iff h
      exact .inl ⟨z, repv_str.mp r1, hz, res_str h R⟩
    | tup ds =>
      obtain ⟨a, xs, e, q, pr⟩ := r1.tup_inv
      refine .inr (.inl ⟨a, xs, e, q, fun hw => ?_, fun _ p hp => res_tup h R hp (cut_pr pr)⟩)
      refine res_pure h R (RepV.tup_of q ?_)
      have e2 : cutL ds lo hi = ds := by
        unfold cutL
        rw [pr.length] at hw
        rw [hw.1, hw.2]
        simp
      rw [e2]
      exact pr
    | _ => exact absurd h id
  | ref n =>
    obtain ⟨c, hc, h⟩ := res_get h
    obtain ⟨a, e, n1, k⟩ := ref_cell R r1 hc
    cases c with
    | lst xs =>
      obtain ⟨us, k1, k2⟩ := k
      exact .inr (.inr ⟨a, us, e, SqL.of k1, fun p hp => res_lst h R hp (cut_pr k2)⟩)
    | rol ns => exact .inr (.inr ⟨a, _, e, k, fun p hp => res_lst h R hp (cut_pr (repvs_ints ns))⟩)
    | _ => exact absurd h id
/-! ### built-ins -/
/-- a call on values -/
def rCa (w : Wd) (W : Value → Option Addr → Hp → Prop) (m : List Vl → M Vl) : List V → Hp → VK → Prop := fun xs H Q => ∃ ι s vs, w.R ι s H ∧ RepVs w.K ι H xs vs ∧ ResG w ι H W (CQ w Q) ((m vs).run s)
theorem car_imp {f : Value} {r r' : List V → Hp → VK → Prop} (h : CallR X f r) (g : ∀ xs H Q, r' xs H Q → r xs H Q) : CallR X f r' := fun pins s σ H xs us Q I rx q => h pins s σ H xs us Q I rx (g xs H Q q)
theorem pr1 {α β : Type} {F : α → β → Prop} {xs : List α} {y : β} (h : Paired F xs [y]) : ∃ x, xs = [x] ∧ F x y := by
  cases h with | cons r t => cases t; exact ⟨_, rfl, r⟩
theorem pr2 {α β : Type} {F : α → β → Prop} {xs : List α} {y z : β} (h : Paired F xs [y, z]) : ∃ a b, xs = [a, b] ∧ F a y ∧ F b z := by
  cases h with | cons r t => cases t with | cons r2 t => cases t; exact ⟨_, _, rfl, r, r2⟩
theorem v1_some {vs : List Vl} {v : Vl} (h : v1 vs = some v) : vs = [v] := by
  cases vs with
  | nil => cases h
  | cons a t => cases t with
    | nil => cases h; rfl
    | cons b t => cases h
theorem int?_some {v : Vl} {i : Int} (h : v.int? = some i) : v = .dat (.int i) := by
  cases v with
  | ref n => cases h
  | dat d => cases d <;> first | (cases h; done) | (cases h; rfl)
theorem i1_some {vs : List Vl} {i : Int} (h : i1 vs = some i) : vs = [.dat (.int i)] := by
  cases vs with
  | nil => cases h
  | cons a t => cases t with
    | nil => rw [int?_some h]
    | cons b t => cases h
theorem i2_some {vs : List Vl} {p : Int × Int} (h : i2 vs = some p) : vs = [.dat (.int p.1), .dat (.int p.2)] := by
  cases vs with
  | nil => cases h
  | cons a t => cases t with
    | nil => cases h
    | cons b t => cases t with
      | cons c t => cases h
      | nil =>
        have h' : (match a.int?, b.int? with
          | some i, some j => some (i, j)
          | _, _ => none) = some p := h
        cases e1 : a.int? with
        | none => rw [e1] at h'; cases h'
        | some i =>
          cases e2 : b.int? with
          | none => rw [e1, e2] at h'; cases h'
          | some j =>
            rw [e1, e2] at h'
            cases h'
            rw [int?_some e1, int?_some e2]
theorem ca_len (hK : X.K = w.K) : CallR X (.builtin "len") (rCa w W (biM .len)) := by
  obtain ⟨K, cl, xa⟩ := w
  subst hK
  refine car_imp call_len ?_
  rintro xs H Q ⟨ι, s, vs, R, r, h⟩
  obtain ⟨v, hv, h⟩ := res_of h
  rw [v1_some hv] at r
  obtain ⟨x, ex, r0⟩ := pr1 r
  subst ex
  have r := r0
  cases v with
  | dat d =>
    cases d with
    | str z =>
      obtain ⟨hz, h⟩ := res_iff h
      rw [repv_str.mp r]
      exact ⟨_, z.length, rfl, ⟨hz, rfl⟩, res_int h R⟩
    | tup ds =>
      obtain ⟨a, xs, e, q, pr⟩ := r.tup_inv
      subst e
      exact ⟨_, ds.length, rfl, .inr ⟨xs, q, pr.length.symm⟩, res_int h R⟩
    | _ => exact absurd h id
  | ref n =>
    obtain ⟨c, hc, h⟩ := res_get (f := fun c => (match c with
      | .lst xs => M.pure (Vl.dat (.int xs.length))
      | .rol xs => M.pure (Vl.dat (.int xs.length))
      | .dct kvs => M.pure (Vl.dat (.int kvs.length))
      | .ins _ _ => M.bad)) h
    obtain ⟨a, e, n1, k⟩ := ref_cell R r hc
    subst e
    cases c with
    | lst xs =>
      obtain ⟨us, k1, k2⟩ := k
      exact ⟨_, xs.length, rfl, .inl ⟨us, SqL.of k1, k2.length.symm⟩, res_int h R⟩
    | rol ns => exact ⟨_, ns.length, rfl, .inl ⟨_, k, by simp⟩, res_int h R⟩
    | dct kvs => exact absurd k id
    | ins c fs => exact absurd h id
theorem ca_abs : CallR X (.builtin "abs") (rCa w W (biM .abs)) := by
  refine car_imp call_abs ?_
  rintro xs H Q ⟨ι, s, vs, R, r, h⟩
  obtain ⟨i, hv, h⟩ := res_of h
  rw [i1_some hv] at r
  obtain ⟨x, ex, r0⟩ := pr1 r
  subst ex
  have r := r0
  rw [repv_int.mp r]
  exact ⟨i, rfl, res_int h R⟩
theorem ca_int : CallR X (.type "int") (rCa w W (biM .int)) := by
  refine car_imp call_int1 ?_
  rintro xs H Q ⟨ι, s, vs, R, r, h⟩
  obtain ⟨v, hv, h⟩ := res_of h
  rw [v1_some hv] at r
  obtain ⟨x, ex, r0⟩ := pr1 r
  subst ex
  have r := r0
  cases v with
  | ref n => exact absurd h id
  | dat d =>
    cases d with
    | int i => rw [repv_int.mp r]; exact .inl ⟨i, rfl, res_int h R⟩
    | bl i => rw [repv_bl.mp r]; exact .inr ⟨i, rfl, res_int h R⟩
    | _ => exact absurd h id
theorem ca_max (hc : X.calm = true) : CallR X (.builtin "max") (rCa w W (biM .max)) := by
  refine car_imp (call_max2 hc) ?_
  rintro xs H Q ⟨ι, s, vs, R, r, h⟩
  obtain ⟨p, hv, h⟩ := res_of h
  rw [i2_some hv] at r
  obtain ⟨x, y, rfl, r1, r2⟩ := pr2 r
  rw [repv_int.mp r1, repv_int.mp r2]
  exact ⟨p.1, p.2, rfl, res_int h R⟩
theorem ca_min (hc : X.calm = true) : CallR X (.builtin "min") (rCa w W (biM .min)) := by
  refine car_imp (call_min2 hc) ?_
  rintro xs H Q ⟨ι, s, vs, R, r, h⟩
  obtain ⟨p, hv, h⟩ := res_of h
  rw [i2_some hv] at r
  obtain ⟨x, y, rfl, r1, r2⟩ := pr2 r
  rw [repv_int.mp r1, repv_int.mp r2]
  exact ⟨p.1, p.2, rfl, res_int h R⟩
/-- sum of a tuple of ints -/
theorem cr_sumT (hc : X.calm = true) : CallR X (.builtin "sum") (fun vs H Q => ∃ (a : Addr) (ns : List Int), vs = [V.ref a] ∧ SqT X.K H a (ns.map V.int) ∧ Q (.int ns.sum) H) := by
  intro pins s σ H vs us Q I r h
  obtain ⟨a, ns, rfl, hs, q⟩ := h
  obtain ⟨its, rv, hl, _⟩ := I.tuple hs
  rw [Vals.ref1 r]
  have hi := rv.ints
  obtain ⟨xs, e⟩ := hi.allInts.items
  have hn : numsOf (intItems xs).toList = ns := by rw [← e]; exact hi.numsOf
  rw [nums_intItems] at hn
  have hl' : s.heap.IsTuple a its.toArray := hl
  rw [e] at hl'
  refine PySem.W.ktm_sumG (I.ok.hd hc) hl' fun h' tk t' hk => ?_
  rw [preSum_eq, List.take_of_length_le (by simp), hn]
  exact ⟨.int _, H, I.kept hk, ⟨_, rfl⟩, q⟩
theorem ints_pr {is : List Int} : ∀ {vs : List Vl} {us : List V}, intsOf vs = some is → RepVs w.K ι H us vs → us = is.map V.int := by
  intro vs
  induction vs generalizing is with
  | nil => intro us h r; cases h; cases r; rfl
  | cons v vs ih =>
    intro us h r
    cases r with
    | cons r1 r2 =>
      cases v with
      | ref n => cases h
      | dat d =>
        cases d with
        | int i =>
          have h' : (intsOf vs).map (i :: ·) = some is := h
          cases e : intsOf vs with
          | none => rw [e] at h'; cases h'
          | some es =>
            rw [e] at h'
            cases h'
            rw [repv_int.mp r1, ih e r2]
            rfl
        | _ => cases h
theorem bls_pr {is : List Bool} : ∀ {vs : List Vl} {us : List V}, blsOf vs = some is → RepVs w.K ι H us vs → us = is.map V.bl := by
  intro vs
  induction vs generalizing is with
  | nil => intro us h r; cases h; cases r; rfl
  | cons v vs ih =>
    intro us h r
    cases r with
    | cons r1 r2 =>
      cases v with
      | ref n => cases h
      | dat d =>
        cases d with
        | bl i =>
          have h' : (blsOf vs).map (i :: ·) = some is := h
          cases e : blsOf vs with
          | none => rw [e] at h'; cases h'
          | some es =>
            rw [e] at h'
            cases h'
            rw [repv_bl.mp r1, ih e r2]
            rfl
        | _ => cases h
theorem ca_sum (hK : X.K = w.K) (hc : X.calm = true) : CallR X (.builtin "sum") (rCa w W (biM .sum)) := by
  obtain ⟨K, cl, xa⟩ := w
  subst hK
  refine car_imp (CallR.or (cr_sum hc) (cr_sumT hc)) ?_
  rintro xs H Q ⟨ι, s, vs, R, r, h⟩
  obtain ⟨v, hv, h⟩ := res_of h
  rw [v1_some hv] at r
  obtain ⟨x, ex, r0⟩ := pr1 r
  subst ex
  have r := r0
  obtain ⟨a, us, vs', e, q, p, h⟩ := res_seq R r h
  obtain ⟨is, hi, h⟩ := res_of h
  have e2 := ints_pr hi p
  subst e e2
  exact q.elim (fun q => .inl ⟨a, is, rfl, q, res_int h R⟩) (fun q => .inr ⟨a, is, rfl, q, res_int h R⟩)
theorem isRef_list {v : Vl} {α : Type} {f : List Vl → M α} {C : α → S → List Addr → Hp → Prop} (R : w.R ι s H) (r : RepV w.K ι H u v) (hv : isRef v = true) (h : ResG w ι H W C ((M.bind (seqM v) f).run s)) :
    ∃ a xs vs, u = .ref a ∧ SqL w.K H a xs ∧ RepVs w.K ι H xs vs ∧ ResG w ι H W C ((f vs).run s) := by
  cases v with
  | dat d => cases hv
  | ref n =>
    have h1 : ResG w ι H W C ((M.bind (M.bind (get n) fun c => (match c with
      | .lst xs => M.pure xs
      | .rol xs => M.pure (intsV xs)
      | _ => M.bad)) f).run s) := h
    rw [mbind_assoc] at h1
    obtain ⟨c, hc, h1⟩ := res_get h1
    obtain ⟨a, e, n1, k⟩ := ref_cell R r hc
    cases c with
    | lst xs => obtain ⟨us, k1, k2⟩ := k; exact ⟨a, us, xs, e, SqL.of k1, k2, h1⟩
    | rol ns => exact ⟨a, _, _, e, k, repvs_ints ns, h1⟩
    | _ => exact absurd h1 id
theorem ca_all (hK : X.K = w.K) (hc : X.calm = true) : CallR X (.builtin "all") (rCa w W (biM .all)) := by
  obtain ⟨K, cl, xa⟩ := w
  subst hK
  refine car_imp (cr_all hc) ?_
  rintro xs H Q ⟨ι, s, vs, R, r, h⟩
  obtain ⟨v, hv, h⟩ := res_of h
  rw [v1_some hv] at r
  obtain ⟨x, ex, r0⟩ := pr1 r
  subst ex
  have r := r0
  unfold allB at h
  cases e : isRef v with
  | false => rw [e] at h; exact absurd h id
  | true =>
    rw [e] at h
    obtain ⟨a, us, vs', e, q, p, h⟩ := isRef_list R r e h
    obtain ⟨is, hi, h⟩ := res_of h
    have e2 := bls_pr hi p
    subst e e2
    exact ⟨a, is, rfl, q, res_bl h R⟩
theorem ca_any (hK : X.K = w.K) (hc : X.calm = true) : CallR X (.builtin "any") (rCa w W (biM .any)) := by
  obtain ⟨K, cl, xa⟩ := w
  subst hK
  refine car_imp (cr_any hc) ?_
  rintro xs H Q ⟨ι, s, vs, R, r, h⟩
  obtain ⟨v, hv, h⟩ := res_of h
  rw [v1_some hv] at r
  obtain ⟨x, ex, r0⟩ := pr1 r
  subst ex
  have r := r0
  unfold allB at h
  cases e : isRef v with
  | false => rw [e] at h; exact absurd h id
  | true =>
    rw [e] at h
    obtain ⟨a, us, vs', e, q, p, h⟩ := isRef_list R r e h
    obtain ⟨is, hi, h⟩ := res_of h
    have e2 := bls_pr hi p
    subst e e2
    exact ⟨a, is, rfl, q, res_bl h R⟩
theorem ca_tup (hK : X.K = w.K) : CallR X (.type "tuple") (rCa w W (biM .tup)) := by
  obtain ⟨K, cl, xa⟩ := w
  subst hK
  refine car_imp call_tuple_of ?_
  rintro xs H Q ⟨ι, s, vs, R, r, h⟩
  obtain ⟨v, hv, h⟩ := res_of h
  rw [v1_some hv] at r
  obtain ⟨x, ex, r0⟩ := pr1 r
  subst ex
  have r := r0
  obtain ⟨a, us, vs', e, q, p, h⟩ := res_seq R r h
  obtain ⟨ds, hd, h⟩ := res_of h
  have pd := repvs_dats hd p
  subst e
  refine ⟨a, us, rfl, q.elim (fun q => .inl ⟨q, fun l hl => res_tup h R hl pd⟩) (fun q => .inr ⟨q, res_pure h R (RepV.tup_of q pd)⟩)⟩
theorem ca_lst (hK : X.K = w.K) : CallR X (.type "list") (rCa w W (biM .lst)) := by
  obtain ⟨K, cl, xa⟩ := w
  subst hK
  refine car_imp call_list_of ?_
  rintro xs H Q ⟨ι, s, vs, R, r, h⟩
  obtain ⟨v, hv, h⟩ := res_of h
  rw [v1_some hv] at r
  obtain ⟨x, ex, r0⟩ := pr1 r
  subst ex
  have r := r0
  obtain ⟨a, us, vs', e, q, p, h⟩ := res_seq R r h
  subst e
  exact ⟨a, us, rfl, q, fun l hl => res_lst h R hl p⟩
end
end PI
/-! PI6: from the model's syntax to the interpreter's. -/
namespace PI
open PySem PySem.Spec L2 PyProof.Rows

/-- what a text's names stand for: N the slots of the def, sc the scope one stands in, wr the scope as it is written -/
structure Tc where
  N : List Str
  sc : Scope
  wr : Scope
  fns : List Str
  cls : List Str
  meths : List Str
  glb : List (Str × D)

def slotOf (c : Tc) (x : Str) : Option Nat := match c.sc.names.lookup x with
  | some .local => c.N.findIdx? fun y => decide (y = x)
  | some .cell => c.N.findIdx? fun y => decide (y = x)
  | some .free => c.N.findIdx? fun y => decide (y = x)
  | _ => none
def isGl (c : Tc) (x : Str) : Bool := decide (c.sc.names.lookup x = some .globalImplicit) && !decide (x = "__name__") && !decide (x = "__debug__")
def idxOf (l : List Str) (x : Str) : Option Nat := l.findIdx? fun y => decide (y = x)
def biTab : List (Str × Bi) := [("len", .len), ("sum", .sum), ("abs", .abs), ("int", .int), ("max", .max), ("min", .min), ("tuple", .tup), ("list", .lst), ("all", .all), ("any", .any)]
def tyTab : List Str := ["bool", "int", "str", "tuple", "list"]

def litOf : Const → Option D
  | .none => some .non
  | .bool b => some (.bl b)
  | .int i => some (.int i)
  | .str s => some (.str s)
  | _ => none
/-- a local name that may be stored -/
def locOf (c : Tc) (x : Str) : Option Nat := match c.sc.names.lookup x with
  | some .local => c.N.findIdx? fun y => decide (y = x)
  | some .cell => match c.wr.names.lookup x with
    | some .cell => c.N.findIdx? fun y => decide (y = x)
    | _ => none
  | _ => none
/-- .. and is no cell -/
def locL (c : Tc) (x : Str) : Option Nat := match c.sc.names.lookup x with
  | some .local => c.N.findIdx? fun y => decide (y = x)
  | _ => none
mutual
def trTg (c : Tc) : Expr → Option Tg
  | .Name x _ => (locOf c x).map .nm
  | .Tuple es _ _ => (trTgs c es).map .tp
  | _ => none
def trTgs (c : Tc) : List Expr → Option (List Tg)
  | [] => some []
  | e :: es => match trTg c e, trTgs c es with
    | some t, some ts => some (t :: ts)
    | _, _ => none
end
mutual
/-- a target of the own names alone changes no other name -/
def tgIn (own : List Nat) : Tg → Bool
  | .nm i => decide (i ∈ own)
  | .tp ts => tgsIn own ts
def tgsIn (own : List Nat) : List Tg → Bool
  | [] => true
  | t :: ts => tgIn own t && tgsIn own ts
end
/-- the slots of a comprehension's own names -/
def ownOf (c : Tc) (sc : Scope) : Option (List (Str × Nat)) := some ((sc.names.filter fun p => decide (p.2 = .local) || decide (p.2 = .cell)).filterMap fun p => (c.N.findIdx? fun y => decide (y = p.1)).map fun i => (p.1, i))
def trName (c : Tc) (x : Str) : Option Ex := match slotOf c x with
  | some i => if x = "__debug__" ∨ x = "__classdict__" then none else some (.var i)
  | none => if isGl c x = true then (c.glb.lookup x).map (.glb x) else none
def mkUn (op : UnaryOp) (x : Ex) : Option Ex := match op with
  | .Not => some (.not x)
  | .USub => some (.neg x)
  | _ => none
def mkB (op : BoolOp) : List Ex → Option Ex
  | [] => none
  | [x] => some x
  | x :: y :: r => match mkB op (y :: r) with
    | some z => some (match op with
      | .And => .and x z
      | .Or => .or x z)
    | none => none
def mkCmp (x : Ex) : List CmpOp → List Ex → Option Ex
  | [op], [y] => some (.cmp (copOf op) x y)
  | [op, op'], [y, z] => some (.chn (copOf op) (copOf op') x y z)
  | _, _ => none
/-- the slice [::-1] -/
def isRev : Expr → Bool
  | .Slice none none (some (.UnaryOp .USub (.Constant (.int i) _ _) _)) _ => decide (i = 1)
  | _ => false
def mkSub (rv : Bool) (x : Ex) : Option Ex → Option (List Ex × List Ex) → Option Ex
  | some y, _ => some (.ix x y)
  | none, some p => some (.sl x p.1 p.2)
  | none, none => if rv = true then some (.rev x) else none
/-- a call of a name -/
def mkCallN (c : Tc) (f : Str) (xs : List Ex) : Option Ex := if f = "super" then none else match slotOf c f, isGl c f with
  | none, true => match idxOf c.fns f with
    | some i => some (.call i xs)
    | none => if xs = [] then none else match biTab.lookup f with
      | some b => some (.bi b xs)
      | none => none
  | _, _ => none
/-- isinstance(e, T) -/
def mkIsi (c : Tc) (f : Str) (es : List Expr) (h : Option Ex) : Option Ex := if f = "isinstance" then (match slotOf c f, isGl c f, es, h with
  | none, true, [_, .Name T _], some x => if T ∈ tyTab ∧ slotOf c T = none ∧ isGl c T = true then some (.isi x T) else none
  | _, _, _, _ => none) else none
/-- a call of a method -/
def mkCallM (c : Tc) (m : Str) (line : Bool) (o : Ex) (xs : List Ex) : Option Ex :=
  if m ∈ c.meths then none else match line with
    | true => if m = "append" ∧ xs.length = 1 then some (.bm .append o xs) else none
    | false => none
/-- what a for walks -/
def itK (c : Tc) (e : Expr) (x : Option Ex) (as : Option (List Ex)) : Option (ItK × List Ex) := match e with
  | .Call (.Name f _) es [] _ => if f = "range" then (match slotOf c f, isGl c f, as with
    | none, true, some xs => if es.length = 1 ∨ es.length = 2 then some (.rng, xs) else none
    | _, _, _ => none) else x.map fun x => (.val, [x])
  | _ => x.map fun x => (.val, [x])
mutual
def tr (c : Tc) : Expr → Option Ex
  | .Name x _ => trName c x
  | .Constant k _ _ => (litOf k).map .lit
  | .Tuple es _ _ => (trs c es).map .tup
  | .List es _ => (trs c es).map .lst
  | .BinOp a op b _ => match bopOf op, tr c a, tr c b with
    | some o, some x, some y => some (.bin o x y)
    | _, _, _ => none
  | .UnaryOp op a _ => match tr c a with
    | some x => mkUn op x
    | none => none
  | .BoolOp op es _ => match trs c es with
    | some xs => mkB op xs
    | none => none
  | .IfExp t a b _ => match tr c t, tr c a, tr c b with
    | some x, some y, some z => some (.ite x y z)
    | _, _, _ => none
  | .Compare a ops bs _ => match tr c a, trs c bs with
    | some x, some ys => mkCmp x ops ys
    | _, _ => none
  | .Subscript a s _ => match tr c a with
    | some x => mkSub (isRev s) x (tr c s) (trSl c s)
    | none => none
  | .Call f es kws pos => match kws, f, trs c es with
    | [], .Name x _, some xs => mkCallN c x xs
    | [], .Attribute _ m apos, some xs => match trRecv c f with
      | some o => mkCallM c m (apos.endLine == pos.line) o xs
      | none => none
    | [], .Name x _, none => mkIsi c x es (trHd c es)
    | _, _, _ => none
  | .ListComp elt gens scope _ => match ownOf c scope, trGens c { c with sc := relS scope c.sc, wr := scope } gens, tr { c with sc := relS scope c.sc, wr := scope } elt with
    | some own, some g, some x => if blkC c.N c.sc scope own = true ∧ g.2.2.length ≤ 1 ∧ tgIn (own.map (·.2)) g.2.1 = true then some (.lc x g.2.1 g.1.1 g.1.2 g.2.2 (own.map (·.2))) else none
    | _, _, _ => none
  | _ => none
def trRecv (c : Tc) : Expr → Option Ex
  | .Attribute o _ _ => tr c o
  | _ => none
def trHd (c : Tc) : List Expr → Option Ex
  | e :: _ => tr c e
  | [] => none
def trArgs (c : Tc) : Expr → Option (List Ex)
  | .Call _ es _ _ => trs c es
  | _ => none
def trSl (c : Tc) : Expr → Option (List Ex × List Ex)
  | .Slice lo hi none _ => match trO c lo, trO c hi with
    | some l, some h => some (l, h)
    | _, _ => none
  | _ => none
def trO (c : Tc) : Option Expr → Option (List Ex)
  | none => some []
  | some e => (tr c e).map fun x => [x]
def trs (c : Tc) : List Expr → Option (List Ex)
  | [] => some []
  | e :: es => match tr c e, trs c es with
    | some x, some xs => some (x :: xs)
    | _, _ => none
def trGens (c c' : Tc) : List Comprehension → Option ((ItK × List Ex) × Tg × List Ex)
  | [g] => trGen c c' g
  | _ => none
def trGen (c c' : Tc) : Comprehension → Option ((ItK × List Ex) × Tg × List Ex)
  | ⟨tg, iter, ifs, a⟩ => if a = 0 then (match itK c iter (tr c iter) (trArgs c iter), trTg c' tg, trs c' ifs with
    | some x, some t, some xs => some (x, t, xs)
    | _, _, _ => none) else none
end
end PI
/-! PI7: expressions: what the interpreter tells is what the model does. -/
namespace PI
open PySem PySem.Spec L2 PyProof.Rows

/-- a def's promise: what the interpreter tells of the call -/
def spF (w : Wd) (m : List Vl → M Vl) : Sp := fun vs H Q E => ∃ ι s ds, w.R ι s H ∧ RepVs w.K ι H vs ds ∧ ResG w ι H (fun c d H' => E c d H') (CQ w Q) ((m ds).run s)
def bltNames : List Str := ["len", "sum", "abs", "int", "max", "min", "tuple", "list", "all", "any", "range", "isinstance", "bool", "str", "set", "dict", "sorted", "enumerate", "zip", "reversed"]
/-- a def of the module -/
structure FnK (w : Wd) (m : List Vl → M Vl) (X : Cx) (x : Str) (f : Addr) (k : Nat) (fd : FuncData) (ps : List Str) : Prop where
  ok : FnOk X.prog X.w X.K X.mg X.base (L2.CX X.prog X.w) k f fd ps (spF w m)
  room : Room k X.A
  glob : X.mg x = some (.ref f)
  kp : PySem.W.keepIn X.K (.ref f) = true
  bd : Binds X.K fd ps []
structure XOk (P : Prg) (G : Nat → List Vl → M Vl) (w : Wd) (c : Tc) (X : Cx) : Prop where
  N : X.N = c.N
  nd : c.N.Nodup
  sc : X.env.scope = c.sc
  fnw : ∀ x, c.wr.names.lookup x = some .cell → X.fn x = true
  calm : X.calm = true
  K : X.K = w.K
  un : X.A.units + 65 < cLine
  glb : ∀ x d, c.glb.lookup x = some d → ∃ v u, X.mg x = some u ∧ RelV v u ∧ ∀ H, Dp X.K H v d.py
  blt : ∀ x ∈ bltNames, X.mg x = none
  fn : ∀ i x, idxOf c.fns x = some i → ∃ f k fd ps, FnK w (G i) X x f k fd ps
abbrev WT := Value → Option Addr → L2.St → Hp → Prop

section
variable {P : Prg} {G : Nat → List Vl → M Vl} {w : Wd} {c : Tc} {X : Cx} {W : WT}
theorem XOk.blk (h : XOk P G w c X) (s : Shared) (H : Hp) (scope : Scope) (C : Addr) (cl : List (Str × Addr)) (fp : List Addr) {sc : Scope} (hsc : (compEnvC scope cl C X.env).scope = sc) :
    XOk P G w { c with sc := sc, wr := scope } (X.blk s H scope (compEnvC scope cl C X.env) fp) where
  N := h.N
  nd := h.nd
  sc := hsc
  fnw := fun x h => beq_iff_eq.mpr h
  calm := h.calm
  K := h.K
  un := h.un
  glb := h.glb
  blt := h.blt
  fn := fun i x e => by
    obtain ⟨f, k, fd, ps, q⟩ := h.fn i x e
    exact ⟨f, k, fd, ps, ⟨q.ok, q.room, q.glob, q.kp, q.bd⟩⟩

/-! ### side conditions of parts that are translated -/
theorem tr_star {e : Expr} {x : Ex} (h : tr c e = some x) (es : List Expr) (env : PySem.Env) : starEach (e :: es) env = (false, eval e env) :: starEach es env := by
  cases e <;> first | rfl | (simp [tr] at h; done)
theorem trs_star : ∀ {es : List Expr} {xs : List Ex}, trs c es = some xs → ∀ (pos : Pos) (env : PySem.Env), (backTo pos (starEach es env)).any (·.1) = false
  | [], _, _, _, _ => rfl
  | e :: es, xs, h, pos, env => by
    unfold trs at h
    cases h1 : tr c e with
    | none => rw [h1] at h; cases h
    | some x =>
      cases h2 : trs c es with
      | none => rw [h1, h2] at h; cases h
      | some ys =>
        rw [tr_star h1]
        have := trs_star h2 pos env
        unfold backTo at this ⊢
        rw [List.map_cons, List.any_cons, this]
        rfl
theorem trs_cons {e : Expr} {es : List Expr} {xs : List Ex} (h : trs c (e :: es) = some xs) : ∃ y ys, tr c e = some y ∧ trs c es = some ys ∧ xs = y :: ys := by
  unfold trs at h
  cases h1 : tr c e with
  | none => rw [h1] at h; cases h
  | some x =>
    cases h2 : trs c es with
    | none => rw [h1, h2] at h; cases h
    | some ys => rw [h1, h2] at h; cases h; exact ⟨x, ys, rfl, rfl, rfl⟩
theorem tr_marks {e : Expr} {x : Ex} (h : tr c e = some x) (op : CmpOp) : behindInMarks op e = false := by
  cases e <;> first | rfl | (simp [tr] at h; done)
theorem tr_plainIx {e : Expr} {x : Ex} (h : tr c e = some x) : PlainIx e := by
  cases e <;> first | (intro _ _; rfl) | (simp [tr] at h; done)
theorem tr_folded {e : Expr} {x : Ex} (h : tr c e = some x) (env : PySem.Env) (v : Value) : foldedSetIterable e env v = pure v := by
  cases e <;> first | rfl | (simp [tr] at h; done)
theorem tr_attr {e : Expr} {x : Ex} {m : Str} {env : PySem.Env} (h : tr c e = some x) : attributeBase e m env (eval e env) = eval e env := by
  cases e <;> first | rfl | (simp [tr] at h; done) | skip
  rename_i f es kws pos
  cases f <;> first | rfl | skip
  rename_i id p
  cases es with
  | cons a t => rfl
  | nil =>
    have hs : id ≠ "super" := by
      intro e
      subst e
      unfold tr at h
      cases kws with
      | cons a t => simp at h
      | nil =>
        unfold trs mkCallN at h
        simp at h
    have e : (id != ("super" : Str)) = true := bne_iff_ne.mpr hs
    cases kws with
    | cons a t => rfl
    | nil =>
      unfold attributeBase
      simp only [e, Bool.true_or, if_true]
/-! ### names and displays -/
theorem g_var {i : Nat} {x : Str} {pos : Pos} (hN : X.N[i]? = some x) (hv : Vis X.env.scope x) (hd : (x == ("__debug__" : Str)) = false) (hcd : (x == ("__classdict__" : Str)) = false) : PE X (.Name x pos) (tE w W (evalE P G (.var i))) := by
  refine PE.imp (pe_var hN hv hd hcd) ?_
  rintro σ H Q ⟨ι, env, s, R, er, h⟩
  have h : ResG w ι H (fun c d H' => W c d σ H') (CQ w Q) ((slot env i).run s) := h
  unfold slot at h
  cases e : env[i]? with
  | none => rw [e] at h; exact absurd h id
  | some o =>
    cases o with
    | none => rw [e] at h; exact absurd h id
    | some v =>
      rw [e] at h
      obtain ⟨u, h1, h2⟩ := er.2 i v e
      exact ⟨u, h1, res_pure h R h2⟩
theorem g_lit {k : Const} {d : D} {j : Nat} {pos : Pos} (h : litOf k = some d) : PE X (.Constant k j pos) (tE w W (evalE P G (.lit d))) := by
  cases k with
  | none => cases h; exact PE.imp pe_non fun σ H Q ⟨ι, env, s, R, er, h⟩ => res_non h R
  | bool b => cases h; exact PE.imp pe_bl fun σ H Q ⟨ι, env, s, R, er, h⟩ => res_bl h R
  | int b => cases h; exact PE.imp pe_int fun σ H Q ⟨ι, env, s, R, er, h⟩ => res_int h R
  | str b => cases h; exact PE.imp pe_str fun σ H Q ⟨ι, env, s, R, er, h⟩ => res_str h R
  | _ => cases h
theorem g_glb {x : Str} {d : D} {pos : Pos} (hg : Gl X x) (h : ∃ v u, X.mg x = some u ∧ RelV v u ∧ ∀ H, Dp X.K H v d.py) (hK : X.K = w.K) (hd : (x == ("__debug__" : Str)) = false) : PE X (.Name x pos) (tE w W (evalE P G (.glb x d))) := by
  obtain ⟨v, u, h1, h2, h3⟩ := h
  refine PE.imp (pe_glob hg h1 h2 hd) fun σ H Q ⟨ι, env, s, R, er, h⟩ => ?_
  have h4 : RepV w.K ι H v (.dat d) := by rw [← hK]; exact h3 H
  exact res_pure h R h4
theorem ga_nil : PA X [] (tA w W (evalEs P G [])) := PA.imp pa_nil fun σ H Q ⟨ι, env, s, R, er, h⟩ => h ι H R (Post.refl ι H) [] .nil
theorem ga_cons {e : Expr} {es : List Expr} {x : Ex} {xs : List Ex} (h1 : PE X e (tE w W (evalE P G x))) (h2 : PA X es (tA w W (evalEs P G xs))) (hs : starEach (e :: es) X.env = (false, eval e X.env) :: starEach es X.env) :
    PA X (e :: es) (tA w W (evalEs P G (x :: xs))) := by
  refine PA.imp (pa_cons h1 h2 hs) fun σ H Q ⟨ι, env, s, R, er, h⟩ => ?_
  refine ⟨ι, env, s, R, er, (ResG.bind h).mono fun v s1 ι1 H1 R1 p1 q1 u r1 => ?_⟩
  refine ⟨ι1, env, s1, R1, er.mono p1, (ResG.bind q1).mono fun vs s2 ι2 H2 R2 p2 q2 us r2 => ?_⟩
  exact q2 ι2 H2 R2 (Post.refl ι2 H2) (u :: us) (.cons (r1.mono p2) r2)
theorem g_tup {es : List Expr} {xs : List Ex} {k : Nat} {pos : Pos} (ha : PA X es (tA w W (evalEs P G xs))) : PE X (.Tuple es k pos) (tE w W (evalE P G (.tup xs))) := by
  refine PE.imp (pe_tup ha) fun σ H Q ⟨ι, env, s, R, er, h⟩ => ?_
  refine ⟨ι, env, s, R, er, (ResG.bind h).mono fun vs s1 ι1 H1 R1 p1 q1 us r1 => ?_⟩
  unfold tupM at q1
  cases e : dats vs with
  | none => rw [e] at q1; exact absurd q1 id
  | some ds =>
    rw [e] at q1
    obtain ⟨hz, q1⟩ := res_iff q1
    have pd := repvs_dats e r1
    exact ⟨by rw [pd.length]; exact hz, fun p hp => res_tup q1 R1 hp pd⟩
theorem g_lst {es : List Expr} {xs : List Ex} {pos : Pos} (ha : PA X es (tA w W (evalEs P G xs))) : PE X (.List es pos) (tE w W (evalE P G (.lst xs))) := by
  refine PE.imp (pe_lst ha) fun σ H Q ⟨ι, env, s, R, er, h⟩ => ?_
  refine ⟨ι, env, s, R, er, (ResG.bind h).mono fun vs s1 ι1 H1 R1 p1 q1 us r1 => ?_⟩
  obtain ⟨hz, q1⟩ := res_iff q1
  exact ⟨by rw [r1.length]; exact hz, fun p hp => res_lst q1 R1 hp r1⟩
/-! ### operators -/
/-- two parts, then an operator -/
theorem two {f g : Env → M Vl} {m : Vl → Vl → M Vl} {σ : L2.St} {H : Hp} {Q : VK} (h : tE w W (fun env => M.bind (f env) fun x => M.bind (g env) fun y => m x y) σ H Q) :
    tE w W f σ H fun x H1 => tE w W g σ H1 fun y H2 => rOp w (fun c d H' => W c d σ H') m x y H2 Q := by
  obtain ⟨ι, env, s, R, er, h⟩ := h
  refine ⟨ι, env, s, R, er, (ResG.bind h).mono fun v s1 ι1 H1 R1 p1 q1 u r1 => ?_⟩
  refine ⟨ι1, env, s1, R1, er.mono p1, (ResG.bind q1).mono fun v2 s2 ι2 H2 R2 p2 q2 u2 r2 => ?_⟩
  exact ⟨ι2, s2, v, v2, R2, r1.mono p2, r2, q2⟩
/-- the operator's wish about exceptions is the state's: an operator raises nothing -/
theorem pe_two {a b : Expr} {pos : Pos} {f g : Env → M Vl} {m : Vl → Vl → M Vl} {op : Operator} (ho : ∀ W', OpR X (binaryOp op) (rOp w W' m)) (ha : PE X a (tE w W f)) (hb : PE X b (tE w W g)) :
    PE X (.BinOp a op b pos) (tE w W fun env => M.bind (f env) fun x => M.bind (g env) fun y => m x y) := by
  refine ⟨fun pins s σ H Q I h => ?_⟩
  exact (pe_op (pos := pos) (ho fun c d H' => W c d σ H') ha hb).run pins s σ H Q I (two h)
theorem pe_twoC {a b : Expr} {pos : Pos} {f g : Env → M Vl} {m : Vl → Vl → M Vl} {op : CmpOp} (ho : ∀ W', OpR X (compareOp op) (rOp w W' m)) (ha : PE X a (tE w W f)) (hb : PE X b (tE w W g)) (hm : behindInMarks op b = false) :
    PE X (.Compare a [op] [b] pos) (tE w W fun env => M.bind (f env) fun x => M.bind (g env) fun y => m x y) := by
  refine ⟨fun pins s σ H Q I h => ?_⟩
  exact (pe_cmpR (pos := pos) (ho fun c d H' => W c d σ H') ha hb hm).run pins s σ H Q I (two h)
theorem pe_twoI {a b : Expr} {pos : Pos} {f g : Env → M Vl} {m : Vl → Vl → M Vl} (ho : ∀ W', IxR X (rOp w W' m)) (ha : PE X a (tE w W f)) (hb : PE X b (tE w W g)) (hs : PlainIx b) :
    PE X (.Subscript a b pos) (tE w W fun env => M.bind (f env) fun x => M.bind (g env) fun y => m x y) := by
  refine ⟨fun pins s σ H Q I h => ?_⟩
  exact (pe_ix (pos := pos) (ho fun c d H' => W c d σ H') ha hb hs).run pins s σ H Q I (two h)
theorem cmp_bl {o : Cop} {a b : Ex} : evalE P G (.cmp o a b) = fun env => M.bind (evalE P G a env) fun x => M.bind (evalE P G b env) fun y => cmpV o x y := by
  funext env
  rw [evalE]
  rfl
/-! ### truth -/
theorem g_not {a : Expr} {x : Ex} {pos : Pos} (hK : X.K = w.K) (ha : PE X a (tE w W (evalE P G x))) : PE X (.UnaryOp .Not a pos) (tE w W (evalE P G (.not x))) := by
  refine PE.imp (pe_notT ha) fun σ H Q ⟨ι, env, s, R, er, h⟩ => ?_
  have h : ResG w ι H (fun c d H' => W c d σ H') (CQ w Q) ((M.bind (evalE P G x env) fun x => M.bind (truM x) fun k => M.pure (Vl.dat (.bl (!k)))).run s) := by rw [evalE] at h; exact h
  refine ⟨ι, env, s, R, er, (ResG.bind h).mono fun v s1 ι1 H1 R1 p1 q1 u r1 => ?_⟩
  obtain ⟨k, hk, q1⟩ := res_tru R1 r1 q1
  exact ⟨k, by rw [hK]; exact hk, res_bl q1 R1⟩
theorem g_and {a b : Expr} {rest : List Expr} {x y : Ex} {pos : Pos} (hK : X.K = w.K) (ha : PE X a (tE w W (evalE P G x))) (hb : PE X (.BoolOp .And (b :: rest) pos) (tE w W (evalE P G y))) :
    PE X (.BoolOp .And (a :: b :: rest) pos) (tE w W (evalE P G (.and x y))) := by
  refine PE.imp (pe_andT ha hb) fun σ H Q ⟨ι, env, s, R, er, h⟩ => ?_
  have h : ResG w ι H (fun c d H' => W c d σ H') (CQ w Q) ((M.bind (evalE P G x env) fun x => M.bind (truM x) fun k => match k with
    | true => evalE P G y env
    | false => M.pure x).run s) := by rw [evalE] at h; exact h
  refine ⟨ι, env, s, R, er, (ResG.bind h).mono fun v s1 ι1 H1 R1 p1 q1 u r1 => ?_⟩
  obtain ⟨k, hk, q1⟩ := res_tru R1 r1 q1
  refine ⟨k, by rw [hK]; exact hk, ?_⟩
  cases k with
  | true =>
    rw [if_pos rfl]
    exact ⟨ι1, env, s1, R1, er.mono p1, q1⟩
  | false =>
    rw [if_neg (by decide)]
    exact res_pure q1 R1 r1
theorem g_or {a b : Expr} {rest : List Expr} {x y : Ex} {pos : Pos} (hK : X.K = w.K) (ha : PE X a (tE w W (evalE P G x))) (hb : PE X (.BoolOp .Or (b :: rest) pos) (tE w W (evalE P G y))) :
    PE X (.BoolOp .Or (a :: b :: rest) pos) (tE w W (evalE P G (.or x y))) := by
  refine PE.imp (pe_orT ha hb) fun σ H Q ⟨ι, env, s, R, er, h⟩ => ?_
  have h : ResG w ι H (fun c d H' => W c d σ H') (CQ w Q) ((M.bind (evalE P G x env) fun x => M.bind (truM x) fun k => match k with
    | true => M.pure x
    | false => evalE P G y env).run s) := by rw [evalE] at h; exact h
  refine ⟨ι, env, s, R, er, (ResG.bind h).mono fun v s1 ι1 H1 R1 p1 q1 u r1 => ?_⟩
  obtain ⟨k, hk, q1⟩ := res_tru R1 r1 q1
  refine ⟨k, by rw [hK]; exact hk, ?_⟩
  cases k with
  | true =>
    rw [if_pos rfl]
    exact res_pure q1 R1 r1
  | false =>
    rw [if_neg (by decide)]
    exact ⟨ι1, env, s1, R1, er.mono p1, q1⟩
theorem g_neg {a : Expr} {x : Ex} {pos : Pos} (ha : PE X a (tE w W (evalE P G x))) : PE X (.UnaryOp .USub a pos) (tE w W (evalE P G (.neg x))) := by
  refine PE.imp (pe_un un_neg ha) fun σ H Q ⟨ι, env, s, R, er, h⟩ => ?_
  have h : ResG w ι H (fun c d H' => W c d σ H') (CQ w Q) ((M.bind (evalE P G x env) fun x => (match x with
    | .dat (.int i) => M.pure (Vl.dat (.int (-i)))
    | _ => M.bad)).run s) := by rw [evalE] at h; exact h
  refine ⟨ι, env, s, R, er, (ResG.bind h).mono fun v s1 ι1 H1 R1 p1 q1 u r1 => ?_⟩
  cases v with
  | ref n => exact absurd q1 id
  | dat d =>
    cases d with
    | int i => exact ⟨i, repv_int.mp r1, res_int q1 R1⟩
    | _ => exact absurd q1 id

/-! ### tests -/
theorem tru_state {v : Vl} {s s' : S} {k : Bool} (h : (truM v).run s = .ok k s') : s' = s := by
  cases v with
  | dat d =>
    cases d with
    | non => cases h; rfl
    | bl b => cases h; rfl
    | int i => cases h; rfl
    | str x =>
      have h : (M.iff (x.length ≤ sizeLine) (M.pure ((x.length : Int) != 0))).run s = .ok k s' := h
      by_cases hc : x.length ≤ sizeLine
      · rw [M.iff_pos hc] at h; cases h; rfl
      · rw [M.iff_neg hc] at h; cases h
    | tup l => cases h; rfl
  | ref n =>
    have h1 : ((get n).run s).bind (fun c s' => (match c with
      | .lst xs => M.pure (!xs.isEmpty)
      | .rol xs => M.pure (!xs.isEmpty)
      | _ => M.bad : M Bool).run s') = .ok k s' := h
    cases e : s.cells[n]? with
    | none =>
      have : (get n).run s = .bad := by
        show (match s.cells[n]? with
          | some c => R.ok c s
          | none => .bad) = _
        rw [e]
      rw [this] at h1
      cases h1
    | some c =>
      rw [run_get e] at h1
      cases c with
      | lst xs => cases h1; rfl
      | rol xs => cases h1; rfl
      | dct kvs => cases h1
      | ins c fs => cases h1
/-- a test's run -/
abbrev tst (P : Prg) (G : Nat → List Vl → M Vl) (x : Ex) (env : Env) : M Bool := M.bind (evalE P G x env) truM
theorem tst_not {x : Ex} {env : Env} : tst P G (.not x) env = M.bind (tst P G x env) fun k => M.pure (!k) := M.ext fun s => by
  unfold tst
  rw [evalE, mbind_assoc, mbind_assoc, run_mbind, run_mbind]
  cases e : (evalE P G x env).run s with
  | bad => rfl
  | exc a b => rfl
  | ok v s1 =>
    show ((M.bind (M.bind (truM v) fun k => M.pure (Vl.dat (.bl (!k)))) truM).run s1) = (M.bind (truM v) fun k => M.pure (!k)).run s1
    rw [mbind_assoc]
    rfl
theorem tst_and {x y : Ex} {env : Env} : tst P G (.and x y) env = M.bind (tst P G x env) fun k => match k with
    | true => tst P G y env
    | false => M.pure false := M.ext fun s => by
  unfold tst
  rw [evalE, mbind_assoc, mbind_assoc, run_mbind, run_mbind]
  cases e : (evalE P G x env).run s with
  | bad => rfl
  | exc a b => rfl
  | ok v s1 =>
    show ((M.bind (M.bind (truM v) _) truM).run s1) = (M.bind (truM v) _).run s1
    rw [mbind_assoc, run_mbind, run_mbind]
    cases e2 : (truM v).run s1 with
    | bad => rfl
    | exc a b => rfl
    | ok k s2 =>
      have := tru_state e2
      subst this
      cases k with
      | true => rfl
      | false =>
        show (truM v).run s2 = _
        rw [e2]
        rfl
theorem tst_or {x y : Ex} {env : Env} : tst P G (.or x y) env = M.bind (tst P G x env) fun k => match k with
    | true => M.pure true
    | false => tst P G y env := M.ext fun s => by
  unfold tst
  rw [evalE, mbind_assoc, mbind_assoc, run_mbind, run_mbind]
  cases e : (evalE P G x env).run s with
  | bad => rfl
  | exc a b => rfl
  | ok v s1 =>
    show ((M.bind (M.bind (truM v) _) truM).run s1) = (M.bind (truM v) _).run s1
    rw [mbind_assoc, run_mbind, run_mbind]
    cases e2 : (truM v).run s1 with
    | bad => rfl
    | exc a b => rfl
    | ok k s2 =>
      have := tru_state e2
      subst this
      cases k with
      | false => rfl
      | true =>
        show (truM v).run s2 = _
        rw [e2]
        rfl
theorem tst_ite {c x y : Ex} {env : Env} : tst P G (.ite c x y) env = M.bind (tst P G c env) fun k => match k with
    | true => tst P G x env
    | false => tst P G y env := M.ext fun s => by
  unfold tst
  rw [evalE, mbind_assoc, mbind_assoc, run_mbind, run_mbind]
  cases e : (evalE P G c env).run s with
  | bad => rfl
  | exc a b => rfl
  | ok v s1 =>
    show ((M.bind (M.bind (truM v) _) truM).run s1) = (M.bind (truM v) _).run s1
    rw [mbind_assoc, run_mbind, run_mbind]
    cases e2 : (truM v).run s1 with
    | bad => rfl
    | exc a b => rfl
    | ok k s2 => cases k <;> rfl
/-- what is asked of a test -/
theorem g_truth {a : Expr} {x : Ex} (hK : X.K = w.K) (ha : PE X a (tE w W (evalE P G x))) (he : ∀ whole, isTrue a X.env whole = (do let v ← whole; standAt a.pos; holding [v] (truthy v))) : PT X a (tT w W (tst P G x)) := by
  refine PT.imp (pt_truth ha he) fun σ H Q ⟨ι, env, s, R, er, h⟩ => ?_
  refine ⟨ι, env, s, R, er, (ResG.bind h).mono fun v s1 ι1 H1 R1 p1 q1 u r1 => ?_⟩
  have q2 : ResG w ι1 H1 (fun c d H' => W c d σ H') (fun b _ _ H' => Q b H') ((M.bind (truM v) M.pure).run s1) := by
    have : M.bind (truM v) M.pure = truM v := M.ext fun s => by rw [run_mbind]; cases (truM v).run s <;> rfl
    rw [this]; exact q1
  obtain ⟨k, hk, q2⟩ := res_tru R1 r1 q2
  exact ⟨k, by rw [hK]; exact hk, q2 ι1 H1 R1 (Post.refl ι1 H1)⟩
theorem g_tnot {a : Expr} {x : Ex} {pos : Pos} (ha : PT X a (tT w W (tst P G x))) : PT X (.UnaryOp .Not a pos) (tT w W (tst P G (.not x))) := by
  refine PT.imp (pt_not ha) fun σ H Q ⟨ι, env, s, R, er, h⟩ => ?_
  rw [tst_not] at h
  refine ⟨ι, env, s, R, er, (ResG.bind h).mono fun k s1 ι1 H1 R1 p1 q1 => ?_⟩
  exact q1 ι1 H1 R1 (Post.refl ι1 H1)
theorem g_wone {a : Expr} {x : Ex} {pos : Pos} {op : BoolOp} (ha : PT X a (tT w W (tst P G x))) : PW X (.BoolOp op [a] pos) (tT w W (tst P G x)) := by
  cases op with
  | And => exact pw_and1 ha
  | Or => exact pw_or1 ha
theorem pw_imp {e : Expr} {t t' : TT} (h : PW X e t) (f : ∀ σ H Q, t' σ H Q → t σ H Q) : PW X e t' := ⟨fun wh pins s σ H Q I q => h.run wh pins s σ H Q I (f σ H Q q)⟩
theorem g_wand {a b : Expr} {rest : List Expr} {x y : Ex} {pos : Pos} (ha : PT X a (tT w W (tst P G x))) (hb : PW X (.BoolOp .And (b :: rest) pos) (tT w W (tst P G y))) : PW X (.BoolOp .And (a :: b :: rest) pos) (tT w W (tst P G (.and x y))) := by
  refine pw_imp (pw_and ha hb) fun σ H Q ⟨ι, env, s, R, er, h⟩ => ?_
  rw [tst_and] at h
  refine ⟨ι, env, s, R, er, (ResG.bind h).mono fun k s1 ι1 H1 R1 p1 q1 => ?_⟩
  cases k with
  | true => rw [if_pos rfl]; exact ⟨ι1, env, s1, R1, er.mono p1, q1⟩
  | false => rw [if_neg (by decide)]; exact q1 ι1 H1 R1 (Post.refl ι1 H1)
theorem g_wor {a b : Expr} {rest : List Expr} {x y : Ex} {pos : Pos} (ha : PT X a (tT w W (tst P G x))) (hb : PW X (.BoolOp .Or (b :: rest) pos) (tT w W (tst P G y))) : PW X (.BoolOp .Or (a :: b :: rest) pos) (tT w W (tst P G (.or x y))) := by
  refine pw_imp (pw_or ha hb) fun σ H Q ⟨ι, env, s, R, er, h⟩ => ?_
  rw [tst_or] at h
  refine ⟨ι, env, s, R, er, (ResG.bind h).mono fun k s1 ι1 H1 R1 p1 q1 => ?_⟩
  cases k with
  | true => rw [if_pos rfl]; exact q1 ι1 H1 R1 (Post.refl ι1 H1)
  | false => rw [if_neg (by decide)]; exact ⟨ι1, env, s1, R1, er.mono p1, q1⟩
theorem g_tite {t a b : Expr} {x y z : Ex} {pos : Pos} (ht : PT X t (tT w W (tst P G x))) (ha : PT X a (tT w W (tst P G y))) (hb : PT X b (tT w W (tst P G z))) : PT X (.IfExp t a b pos) (tT w W (tst P G (.ite x y z))) := by
  refine ⟨fun pins s σ H Q I ⟨ι, env, s1, R, er, h⟩ => ?_⟩
  rw [tst_ite] at h
  refine isTrue_IfExp (thn (ht.run pins s σ H (fun k H1 => if k = true then tT w W (tst P G y) σ H1 Q else tT w W (tst P G z) σ H1 Q) I ⟨ι, env, s1, R, er, (ResG.bind h).mono fun k s2 ι1 H1 R1 p1 q1 => ?_⟩) fun k s2 hk => ?_)
  · cases k with
    | true => rw [if_pos rfl]; exact ⟨ι1, env, s2, R1, er.mono p1, q1⟩
    | false => rw [if_neg (by decide)]; exact ⟨ι1, env, s2, R1, er.mono p1, q1⟩
  · obtain ⟨H1, I1, q1⟩ := hk
    cases k with
    | true => rw [if_pos rfl] at q1 ⊢; exact ha.run pins s2 σ H1 Q I1 q1
    | false => rw [if_neg (by decide)] at q1 ⊢; exact hb.run pins s2 σ H1 Q I1 q1
theorem cmp_test {o : Cop} {v v' : Vl} {ι : List Addr} {H : Hp} {s : S} {W' : Value → Option Addr → Hp → Prop} {Q : Bool → Hp → Prop} (h : ResG w ι H W' (fun k _ _ H' => Q k H') ((M.bind (cmpV o v v') truM).run s)) :
    ResG w ι H W' (CQ w fun z H3 => ∃ k, z = .bl k ∧ Q k H3) ((cmpV o v v').run s) := by
  unfold cmpV at h ⊢
  rw [mbind_assoc] at h
  rw [run_mbind] at h ⊢
  cases e : (cmpM o v v').run s with
  | bad => rw [e] at h; exact h
  | exc a b => rw [e] at h; exact h
  | ok k s1 =>
    rw [e] at h
    exact fun ι1 H1 R1 p1 u r1 => ⟨k, repv_bl.mp r1, h ι1 H1 R1 p1⟩
theorem g_tcmp {a b : Expr} {pos : Pos} {x y : Ex} {op : CmpOp} (ho : ∀ W', OpR X (compareOp op) (rOp w W' (cmpV (copOf op)))) (ha : PE X a (tE w W (evalE P G x))) (hb : PE X b (tE w W (evalE P G y))) (hm : behindInMarks op b = false) :
    PT X (.Compare a [op] [b] pos) (tT w W (tst P G (.cmp (copOf op) x y))) := by
  refine ⟨fun pins s σ H Q I ⟨ι, env, s1, R, er, h⟩ => ?_⟩
  refine (pt_cmpR (pos := pos) (ho fun c d H' => W c d σ H') ha hb hm).run pins s σ H Q I ?_
  unfold tst at h
  rw [cmp_bl, mbind_assoc] at h
  refine ⟨ι, env, s1, R, er, (ResG.bind h).mono fun v s2 ι1 H1 R1 p1 q1 u r1 => ?_⟩
  rw [mbind_assoc] at q1
  refine ⟨ι1, env, s2, R1, er.mono p1, (ResG.bind q1).mono fun v2 s3 ι2 H2 R2 p2 q2 u2 r2 => ?_⟩
  exact ⟨ι2, s3, v, v2, R2, r1.mono p2, r2, cmp_test q2⟩
theorem chn_bl {o o' : Cop} {a b d : Ex} {env : Env} : evalE P G (.chn o o' a b d) env = M.bind (evalE P G a env) fun x => M.bind (evalE P G b env) fun y => M.bind (cmpM o x y) fun k => match k with
    | true => M.bind (evalE P G d env) fun z => cmpV o' y z
    | false => M.pure (.dat (.bl false)) := by rw [evalE]; rfl
theorem chain_in {a b d : Ex} {o o' : Cop} {σ : L2.St} {H : Hp} {Q : VK} {W' : Value → Option Addr → Hp → Prop} (hW : W' = fun c d H' => W c d σ H') (h : tE w W (evalE P G (.chn o o' a b d)) σ H Q) :
    tChain (rOp w W' (cmpV o)) (rOp w W' (cmpV o')) (tE w W (evalE P G a)) (tE w W (evalE P G b)) (tE w W (evalE P G d)) σ H Q := by
  subst hW
  obtain ⟨ι, env, s, R, er, h⟩ := h
  rw [chn_bl] at h
  refine ⟨ι, env, s, R, er, (ResG.bind h).mono fun v s1 ι1 H1 R1 p1 q1 u r1 => ?_⟩
  refine ⟨ι1, env, s1, R1, er.mono p1, (ResG.bind q1).mono fun v2 s2 ι2 H2 R2 p2 q2 u2 r2 => ?_⟩
  refine ⟨ι2, s2, v, v2, R2, r1.mono p2, r2, ?_⟩
  unfold cmpV
  rw [run_mbind] at q2 ⊢
  cases e : (cmpM o v v2).run s2 with
  | bad => rw [e] at q2; exact q2
  | exc a b => rw [e] at q2; exact q2
  | ok k s3 =>
    rw [e] at q2
    intro ι3 H3 R3 p3 u3 r3
    refine ⟨k, repv_bl.mp r3, ?_⟩
    have q3 := q2.from p3
    cases k with
    | false =>
      rw [if_neg (by decide)]
      exact res_bl q3 R3
    | true =>
      rw [if_pos rfl]
      refine ⟨ι3, env, s3, R3, (er.mono p1).mono (p2.trans p3), (ResG.bind q3).mono fun v4 s4 ι4 H4 R4 p4 q4 u4 r4 => ?_⟩
      exact ⟨ι4, s4, v2, v4, R4, r2.mono (p3.trans p4), r4, q4⟩
theorem g_chn {a b d : Expr} {pos : Pos} {x y z : Ex} {op op' : CmpOp} (ho : ∀ W', OpR X (compareOp op) (rOp w W' (cmpV (copOf op)))) (ho' : ∀ W', OpR X (compareOp op') (rOp w W' (cmpV (copOf op')))) (ha : PE X a (tE w W (evalE P G x))) (hb : PE X b (tE w W (evalE P G y)))
    (hd : PE X d (tE w W (evalE P G z))) (hm : lastMarks [op, op'] [b, d] = false) : PE X (.Compare a [op, op'] [b, d] pos) (tE w W (evalE P G (.chn (copOf op) (copOf op') x y z))) := by
  refine ⟨fun pins s σ H Q I h => ?_⟩
  exact (pe_chain (pos := pos) (ho fun c d H' => W c d σ H') (ho' fun c d H' => W c d σ H') ha hb hd hm).run pins s σ H Q I (chain_in rfl h)
theorem g_tchn {a b d : Expr} {pos : Pos} {x y z : Ex} {op op' : CmpOp} (ho : ∀ W', OpR X (compareOp op) (rOp w W' (cmpV (copOf op)))) (ho' : ∀ W', OpR X (compareOp op') (rOp w W' (cmpV (copOf op')))) (ha : PE X a (tE w W (evalE P G x))) (hb : PE X b (tE w W (evalE P G y)))
    (hd : PE X d (tE w W (evalE P G z))) (hm : lastMarks [op, op'] [b, d] = false) : PT X (.Compare a [op, op'] [b, d] pos) (tT w W (tst P G (.chn (copOf op) (copOf op') x y z))) := by
  refine ⟨fun pins s σ H Q I ⟨ι, env, s1, R, er, h⟩ => ?_⟩
  refine (pt_chain (pos := pos) (ho fun c d H' => W c d σ H') (ho' fun c d H' => W c d σ H') ha hb hd hm).run pins s σ H Q I ?_
  refine chain_in (W := W) rfl ⟨ι, env, s1, R, er, ?_⟩
  -- a chain's value is a truth value
  unfold tst at h
  rw [chn_bl] at h ⊢
  have key : ∀ {m : M Vl}, (∀ s v s', m.run s = .ok v s' → ∃ k, v = .dat (.bl k)) → ResG w ι H (fun c d H' => W c d σ H') (fun k _ _ H' => Q k H') ((M.bind m truM).run s1) → ResG w ι H (fun c d H' => W c d σ H') (CQ w fun z H3 => ∃ k, z = .bl k ∧ Q k H3) (m.run s1) := fun {m} hm h => by
    rw [run_mbind] at h
    cases e : m.run s1 with
    | bad => rw [e] at h; exact h
    | exc a b => rw [e] at h; exact h
    | ok v s2 =>
      rw [e] at h
      obtain ⟨k, rfl⟩ := hm _ _ _ e
      exact fun ι1 H1 R1 p1 u r1 => ⟨k, repv_bl.mp r1, h ι1 H1 R1 p1⟩
  refine key (fun s v s' e => ?_) h
  rw [run_mbind] at e
  cases e1 : (evalE P G x env).run s with
  | bad => rw [e1] at e; cases e
  | exc a b => rw [e1] at e; cases e
  | ok v1 s1 =>
    rw [e1] at e
    have e : (M.bind (evalE P G y env) _).run s1 = _ := e
    rw [run_mbind] at e
    cases e2 : (evalE P G y env).run s1 with
    | bad => rw [e2] at e; cases e
    | exc a b => rw [e2] at e; cases e
    | ok v2 s2 =>
      rw [e2] at e
      have e : (M.bind (cmpM (copOf op) v1 v2) _).run s2 = _ := e
      rw [run_mbind] at e
      cases e3 : (cmpM (copOf op) v1 v2).run s2 with
      | bad => rw [e3] at e; cases e
      | exc a b => rw [e3] at e; cases e
      | ok k s3 =>
        rw [e3] at e
        cases k with
        | false => cases e; exact ⟨false, rfl⟩
        | true =>
          have e : (M.bind (evalE P G z env) fun z => cmpV (copOf op') v2 z).run s3 = _ := e
          rw [run_mbind] at e
          cases e4 : (evalE P G z env).run s3 with
          | bad => rw [e4] at e; cases e
          | exc a b => rw [e4] at e; cases e
          | ok v4 s4 =>
            rw [e4] at e
            have e : (M.bind (cmpM (copOf op') v2 v4) _).run s4 = _ := e
            rw [run_mbind] at e
            cases e5 : (cmpM (copOf op') v2 v4).run s4 with
            | bad => rw [e5] at e; cases e
            | exc a b => rw [e5] at e; cases e
            | ok k s5 => rw [e5] at e; cases e; exact ⟨k, rfl⟩
end
end PI
/-! PI8: expressions, continued: choices, subscripts, calls, comprehensions. -/
namespace PI
open PySem PySem.Spec L2 PyProof.Rows
section
variable {P : Prg} {G : Nat → List Vl → M Vl} {w : Wd} {c : Tc} {X : Cx} {W : WT}
theorem g_ite {t a b : Expr} {x y z : Ex} {pos : Pos} (ht : PT X t (tT w W (tst P G x))) (ha : PE X a (tE w W (evalE P G y))) (hb : PE X b (tE w W (evalE P G z))) : PE X (.IfExp t a b pos) (tE w W (evalE P G (.ite x y z))) := by
  refine PE.imp (pe_ifExp ht ha hb) fun σ H Q ⟨ι, env, s, R, er, h⟩ => ?_
  have h : ResG w ι H (fun c d H' => W c d σ H') (CQ w Q) ((M.bind (tst P G x env) fun k => match k with
    | true => evalE P G y env
    | false => evalE P G z env).run s) := by
    rw [evalE] at h
    rw [mbind_assoc]
    exact h
  refine ⟨ι, env, s, R, er, (ResG.bind h).mono fun k s1 ι1 H1 R1 p1 q1 => ?_⟩
  cases k with
  | true => rw [if_pos rfl]; exact ⟨ι1, env, s1, R1, er.mono p1, q1⟩
  | false => rw [if_neg (by decide)]; exact ⟨ι1, env, s1, R1, er.mono p1, q1⟩
/-! ### slices -/
def tO (w : Wd) (W : WT) (m : Env → M (Option Int)) : TO := fun σ H Q =>
  ∃ ι env s, w.R ι s H ∧ EnvRel w.K ι H env σ ∧ ResG w ι H (fun c d H' => W c d σ H') (fun o _ _ H' => Q o H') ((m env).run s)
abbrev bnd (P : Prg) (G : Nat → List Vl → M Vl) (es : List Ex) (env : Env) : M (Option Int) := M.bind (evalEs P G es env) bound
theorem po_imp {e : Option Expr} {t t' : TO} (h : PO X e t) (f : ∀ σ H Q, t' σ H Q → t σ H Q) : PO X e t' := ⟨fun pins s σ H Q I q => h.run pins s σ H Q I (f σ H Q q)⟩
theorem go_none : PO X none (tO w W (bnd P G [])) := po_imp po_none fun σ H Q ⟨ι, env, s, R, er, h⟩ => h ι H R (Post.refl ι H)
theorem go_some {e : Expr} {x : Ex} (he : PE X e (tE w W (evalE P G x))) : PO X (some e) (tO w W (bnd P G [x])) := po_imp (po_some he) fun σ H Q ⟨ι, env, s, R, er, h⟩ => by
  have h : ResG w ι H (fun c d H' => W c d σ H') (fun o _ _ H' => Q o H') ((M.bind (evalE P G x env) fun v => bound [v]).run s) := by
    unfold bnd at h
    have e : M.bind (evalEs P G [x] env) bound = M.bind (evalE P G x env) fun v => bound [v] := M.ext fun s => by
      have e2 : evalEs P G [x] env = M.bind (evalE P G x env) fun v => M.bind (M.pure []) fun vs => M.pure (v :: vs) := by rw [evalEs, evalEs]
      rw [e2, mbind_assoc]
      rfl
    rw [e] at h
    exact h
  refine ⟨ι, env, s, R, er, (ResG.bind h).mono fun v s1 ι1 H1 R1 p1 q1 u r1 => ?_⟩
  cases v with
  | ref n => exact absurd q1 id
  | dat d =>
    cases d with
    | int i => exact ⟨i, repv_int.mp r1, q1 ι1 H1 R1 (Post.refl ι1 H1)⟩
    | _ => exact absurd q1 id
theorem g_sl {a : Expr} {lo hi : Option Expr} {x : Ex} {l h : List Ex} {p pos : Pos} (hK : X.K = w.K) (ha : PE X a (tE w W (evalE P G x))) (hl : PO X lo (tO w W (bnd P G l))) (hh : PO X hi (tO w W (bnd P G h))) :
    PE X (.Subscript a (.Slice lo hi none p) pos) (tE w W (evalE P G (.sl x l h))) := by
  refine ⟨fun pins s σ H Q I h1 => ?_⟩
  refine (pe_slice (p2 := p) (pos := pos) (slr (W := fun c d H' => W c d σ H') hK) ha hl hh).run pins s σ H Q I ?_
  obtain ⟨ι, env, s, R, er, h1⟩ := h1
  rw [evalE] at h1
  refine ⟨ι, env, s, R, er, (ResG.bind h1).mono fun v s1 ι1 H1 R1 p1 q1 u r1 => ?_⟩
  refine ⟨ι1, env, s1, R1, er.mono p1, (ResG.bind q1).mono fun o s2 ι2 H2 R2 p2 q2 => ?_⟩
  refine ⟨ι2, env, s2, R2, (er.mono p1).mono p2, (ResG.bind q2).mono fun o2 s3 ι3 H3 R3 p3 q3 => ?_⟩
  exact ⟨ι3, s3, v, R3, (r1.mono p2).mono p3, q3⟩
/-! ### calls -/
theorem ga_call {f : String} {x : Str} {b : Bi} {e : Expr} {es : List Expr} {xs : List Ex} {p pos : Pos} (hc : ∀ W', CallR X (.builtin f) (rCa w W' (biM b))) (hg : Gl X x) (hm : X.mg x = none) (hv : bootBuiltins x = some (.builtin f))
    (ha : PA X (e :: es) (tA w W (evalEs P G xs))) (hn : x ≠ "__name__") (hdb : (x == ("__debug__" : Str)) = false) (he : starEach (e :: es) X.env = (false, eval e X.env) :: starEach es X.env) (hpl : (backTo pos (starEach es X.env)).any (·.1) = false) :
    PE X (.Call (.Name x p) (e :: es) [] pos) (tE w W (evalE P G (.bi b xs))) := by
  refine ⟨fun pins s σ H Q I h => ?_⟩
  refine (pe_callB (hc fun c d H' => W c d σ H') hg hm hv ha hn hdb he hpl).run pins s σ H Q I ?_
  obtain ⟨ι, env, s, R, er, h⟩ := h
  rw [evalE] at h
  exact ⟨ι, env, s, R, er, (ResG.bind h).mono fun vs s1 ι1 H1 R1 p1 q1 us r1 => ⟨ι1, s1, vs, R1, r1, q1⟩⟩
theorem ga_callT {f : String} {x : Str} {b : Bi} {e : Expr} {es : List Expr} {xs : List Ex} {p pos : Pos} (hc : ∀ W', CallR X (.type f) (rCa w W' (biM b))) (hg : Gl X x) (hm : X.mg x = none) (hv : bootBuiltins x = some (.type f))
    (ha : PA X (e :: es) (tA w W (evalEs P G xs))) (hn : x ≠ "__name__") (hdb : (x == ("__debug__" : Str)) = false) (he : starEach (e :: es) X.env = (false, eval e X.env) :: starEach es X.env) (hpl : (backTo pos (starEach es X.env)).any (·.1) = false) :
    PE X (.Call (.Name x p) (e :: es) [] pos) (tE w W (evalE P G (.bi b xs))) := by
  refine ⟨fun pins s σ H Q I h => ?_⟩
  refine (pe_callTy (hc fun c d H' => W c d σ H') hg hm hv ha hn hdb he hpl).run pins s σ H Q I ?_
  obtain ⟨ι, env, s, R, er, h⟩ := h
  rw [evalE] at h
  exact ⟨ι, env, s, R, er, (ResG.bind h).mono fun vs s1 ι1 H1 R1 p1 q1 us r1 => ⟨ι1, s1, vs, R1, r1, q1⟩⟩
/-- a def of the module called -/
theorem pe_callSD0 {k : Nat} {f : Addr} {fd : FuncData} {ps : List Str} {sp : Sp} {ds : List Value} {dvs : List V} {E : L2.St → XK} {x : Str} {p pos : Pos} {CX : CXT} (F : FnOk X.prog X.w X.K X.mg X.base CX k f fd ps sp) (hr : Room k X.A) (hg : Gl X x) (hm : X.mg x = some (.ref f)) (hk : PySem.W.keepIn X.K (.ref f) = true) (hb : Binds X.K fd ps ds) (hd : Vals dvs ds) (hx : ∀ σ, PassesAt CX X σ (E σ))
    (hdb : (x == ("__debug__" : Str)) = false) : PE X (.Call (.Name x p) [] [] pos) (tCallSD sp dvs E tNil) := by
  refine ⟨fun pins s σ H Q I h => ?_⟩
  refine wpAny_Call_Name_kw (ld_glob I hg hm ?_ hdb)
  exact PySem.W.callWith_K0 I.kIn hk (run_fnSD (us := []) F hr hb hd (hx σ) I .nil h)
theorem g_call0 {i : Nat} {x : Str} {p pos : Pos} {f : Addr} {k : Nat} {fd : FuncData} {ps : List Str} (F : FnK w (G i) X x f k fd ps) (tk : Takes X W) (hg : Gl X x) (hdb : (x == ("__debug__" : Str)) = false) :
    PE X (.Call (.Name x p) [] [] pos) (tE w W (evalE P G (.call i []))) :=
  PE.imp (pe_callSD0 F.ok F.room hg F.glob F.kp F.bd .nil (fun σ => passAt tk σ) hdb) fun σ H Q ⟨ι, env, s, R, er, h⟩ => by
    rw [evalE, evalEs] at h
    exact ⟨ι, s, [], R, .nil, h⟩
theorem g_call {i : Nat} {x : Str} {e : Expr} {es : List Expr} {xs : List Ex} {p pos : Pos} {f : Addr} {k : Nat} {fd : FuncData} {ps : List Str} (F : FnK w (G i) X x f k fd ps) (tk : Takes X W) (hg : Gl X x) (hdb : (x == ("__debug__" : Str)) = false)
    (ha : PA X (e :: es) (tA w W (evalEs P G xs))) (he : starEach (e :: es) X.env = (false, eval e X.env) :: starEach es X.env) (hpl : (backTo pos (starEach es X.env)).any (·.1) = false) : PE X (.Call (.Name x p) (e :: es) [] pos) (tE w W (evalE P G (.call i xs))) :=
  PE.imp (pe_callSD F.ok F.room hg F.glob F.kp F.bd .nil (fun σ => passAt tk σ) ha hdb he hpl) fun σ H Q ⟨ι, env, s, R, er, h⟩ => by
    rw [evalE] at h
    refine ⟨ι, env, s, R, er, (ResG.bind h).mono fun vs s1 ι1 H1 R1 p1 q1 us r1 => ⟨ι1, s1, vs, R1, ?_, q1⟩⟩
    rw [List.append_nil]
    exact r1
/-- xs.append(e) -/
theorem g_app {o e : Expr} {x y : Ex} {apos pos : Pos} (hK : X.K = w.K) (ho : PE X o (tE w W (evalE P G x))) (he : PE X e (tE w W (evalE P G y))) (hb : attributeBase o "append" X.env (eval o X.env) = eval o X.env) (hl : (apos.endLine == pos.line) = true)
    (hs : starEach [e] X.env = [(false, eval e X.env)]) : PE X (.Call (.Attribute o "append" apos) [e] [] pos) (tE w W (evalE P G (.bm .append x [y]))) := by
  refine PE.imp (pe_bm PySem.F.plainAttrs_list PySem.F.slot_list_append PySem.F.type_list_append mt_append ho (pa_cons he pa_nil hs) hb (by rw [hs]; rfl) hl hs rfl) fun σ H Q ⟨ι, env, s, R, er, h⟩ => ?_
  have h1 : ResG w ι H (fun c d H' => W c d σ H') (CQ w Q) ((M.bind (evalE P G x env) fun v => M.bind (kindM .append v) fun _ => M.bind (evalE P G y env) fun v2 => bmM .append v [v2]).run s) := by
    have e2 : evalE P G (.bm .append x [y]) env = M.bind (evalE P G x env) fun v => M.bind (kindM .append v) fun _ => M.bind (evalE P G y env) fun v2 => bmM .append v [v2] := M.ext fun s => by
      have e3 : evalEs P G [y] env = M.bind (evalE P G y env) fun v => M.bind (M.pure []) fun vs => M.pure (v :: vs) := by rw [evalEs, evalEs]
      rw [evalE]
      simp only [e3, mbind_assoc]
      rfl
    rw [e2] at h
    exact h
  refine ⟨ι, env, s, R, er, (ResG.bind h1).mono fun v s1 ι1 H1 R1 p1 q1 u r1 => ?_⟩
  cases v with
  | dat d => exact absurd q1 id
  | ref n =>
    unfold kindM at q1
    rw [mbind_assoc] at q1
    obtain ⟨c, hc, q1⟩ := res_get q1
    obtain ⟨a, e1, n1, k⟩ := ref_cell R1 r1 hc
    cases c with
    | lst zs =>
      obtain ⟨us, k1, k2⟩ := k
      subst e1
      have q2 : ResG w ι1 H1 (fun c d H' => W c d σ H') (CQ w Q) ((M.bind (evalE P G y env) fun v2 => bmM .append (.ref n) [v2]).run s1) := q1
      refine ⟨.inl ⟨rfl, us, SqL.of k1⟩, ⟨ι1, env, s1, R1, er.mono p1, (ResG.bind q2).mono fun v2 s2 ι2 H2 R2 p2 q3 u2 r2 => ?_⟩⟩
      have n2 := p2.pre n a n1
      have q4 : ResG w ι2 H2 (fun c d H' => W c d σ H') (CQ w Q) ((updC n (uApp v2)).run s2) := q3
      obtain ⟨c2, c3, x3, e3, e4, q4⟩ := res_upd q4
      have k3 := R2.cell n a c2 n2 e3
      cases c2 with
      | lst ws =>
        have e5 : (if ws.length < sizeLine then some (Cell.lst (ws ++ [v2]), Vl.dat .non) else none) = some (c3, x3) := e4
        by_cases hz : ws.length < sizeLine
        · rw [if_pos hz] at e5
          cases e5
          obtain ⟨us2, k4, k5⟩ := k3
          refine ⟨a, us2, u2, rfl, rfl, k4, by rw [k5.length]; exact hz, ?_⟩
          have pw : Post ι2 H2 ι2 (L2.upd H2 a (.lst (us2 ++ [u2]))) := post_write n2 k4 trivial
          refine q4 ι2 _ (R2.write n2 e3 (fun _ z => by cases z) k4 trivial ⟨_, upd_same, RepVs.mono pw (pr_append k5 (.cons r2 .nil))⟩) pw .non (repv_non.mpr rfl)
        · rw [if_neg hz] at e5; cases e5
      | _ => cases e4
    | _ => exact absurd q1 id
/-! ### isinstance -/
def tyName : List (Str × String) := [("NoneType", "NoneType"), ("bool", "bool"), ("int", "int"), ("str", "str"), ("tuple", "tuple"), ("list", "list")]
/-- a value's type in the model -/
theorem ty_of {v : Vl} {a : Str} {u : V} {ι : List Addr} {H : Hp} {s s' : S} (R : w.R ι s H) (r : RepV w.K ι H u v) (h : (tyM v).run s = .ok a s') : s' = s ∧ ∃ n, (a, n) ∈ tyName ∧ TyX w.K H u (.type n) := by
  cases v with
  | dat d =>
    cases d with
    | non => cases h; exact ⟨rfl, "NoneType", by simp [tyName], by rw [repv_non.mp r]; exact .base .non⟩
    | bl b => cases h; exact ⟨rfl, "bool", by simp [tyName], by rw [repv_bl.mp r]; exact .base (.bl b)⟩
    | int b => cases h; exact ⟨rfl, "int", by simp [tyName], by rw [repv_int.mp r]; exact .base (.int b)⟩
    | str b => cases h; exact ⟨rfl, "str", by simp [tyName], by rw [repv_str.mp r]; exact .base (.str b)⟩
    | tup ds =>
      cases h
      obtain ⟨a, xs, rfl, q, _⟩ := r.tup_inv
      refine ⟨rfl, "tuple", by simp [tyName], ?_⟩
      rcases q with q | ⟨o, its, n, hk, hc, hs, hz, rv⟩
      · rcases q with q | ⟨o, q⟩
        · exact .base (.tup q)
        · exact .fTuple q
      · exact .kTuple hk hc
  | ref n =>
    have h : (M.bind (get n) fun c => (match c with
      | .lst _ => M.pure ("list" : Str)
      | _ => M.bad)).run s = .ok a s' := h
    rw [run_mbind] at h
    have e0 : (get n).run s = (match s.cells[n]? with
      | some c => .ok c s
      | none => .bad) := rfl
    rw [e0] at h
    cases e1 : s.cells[n]? with
    | none => rw [e1] at h; cases h
    | some cc =>
      rw [e1] at h
      obtain ⟨ad, e, n1, k⟩ := ref_cell R r e1
      cases cc with
      | lst xs =>
        cases h
        obtain ⟨us, k1, k2⟩ := k
        subst e
        exact ⟨rfl, "list", by simp [tyName], .base (.lst k1)⟩
      | _ => cases h
theorem ty_is {a t : Str} {n m : String} (h1 : (a, n) ∈ tyName) (h2 : (t, m) ∈ tyName) (h3 : t ∈ tyTab) : kitB n m = some (tyIs a t) := by
  simp only [tyName, tyTab, List.mem_cons, List.not_mem_nil, or_false, Prod.mk.injEq] at h1 h2 h3
  rcases h1 with ⟨rfl, rfl⟩ | ⟨rfl, rfl⟩ | ⟨rfl, rfl⟩ | ⟨rfl, rfl⟩ | ⟨rfl, rfl⟩ | ⟨rfl, rfl⟩ <;>
  rcases h2 with ⟨rfl, rfl⟩ | ⟨rfl, rfl⟩ | ⟨rfl, rfl⟩ | ⟨rfl, rfl⟩ | ⟨rfl, rfl⟩ | ⟨rfl, rfl⟩ <;> first | decide +kernel | (exfalso; revert h3; decide +kernel)
theorem tab_name {t : Str} (h : t ∈ tyTab) : ∃ m, (t, m) ∈ tyName ∧ bootBuiltins t = some (.type m) ∧ t ∈ bltNames ∧ t ≠ "__name__" ∧ (t == ("__debug__" : Str)) = false := by
  simp only [tyTab, List.mem_cons, List.not_mem_nil, or_false] at h
  rcases h with rfl | rfl | rfl | rfl | rfl
  · exact ⟨"bool", by simp [tyName], rfl, by simp [bltNames], by decide, by decide⟩
  · exact ⟨"int", by simp [tyName], rfl, by simp [bltNames], by decide, by decide⟩
  · exact ⟨"str", by simp [tyName], rfl, by simp [bltNames], by decide, by decide⟩
  · exact ⟨"tuple", by simp [tyName], rfl, by simp [bltNames], by decide, by decide⟩
  · exact ⟨"list", by simp [tyName], rfl, by simp [bltNames], by decide, by decide⟩
theorem g_isi {e : Expr} {x : Ex} {T : Str} {p pT pos : Pos} (hK : X.K = w.K) (he : PE X e (tE w W (evalE P G x))) (hT : T ∈ tyTab) (gI : Gl X "isinstance") (mI : X.mg "isinstance" = none) (gT : Gl X T) (mT : X.mg T = none)
    (hs : starEach [e, .Name T pT] X.env = (false, eval e X.env) :: starEach [.Name T pT] X.env) : PE X (.Call (.Name "isinstance" p) [e, .Name T pT] [] pos) (tE w W (evalE P G (.isi x T))) := by
  obtain ⟨m, h1, h2, h3, h4, h5⟩ := tab_name hT
  have hb : PE X (.Name T pT) (tC (.ty m)) := pe_bltn gT mT h2 rfl h4 h5
  have ha : PA X [e, .Name T pT] _ := pa_cons he (pa_cons hb pa_nil) hs
  refine PE.imp (pe_callB call_isi gI mI rfl ha (by decide) (by decide) hs rfl) fun σ H Q ⟨ι, env, s, R, er, h⟩ => ?_
  have h : ResG w ι H (fun c d H' => W c d σ H') (CQ w Q) ((M.bind (evalE P G x env) fun v => M.bind (isiM v T) fun k => M.pure (.dat (.bl k))).run s) := by rw [evalE] at h; exact h
  refine ⟨ι, env, s, R, er, (ResG.bind h).mono fun v s1 ι1 H1 R1 p1 q1 u r1 => ?_⟩
  unfold isiM at q1
  rw [mbind_assoc, run_mbind] at q1
  cases e1 : (tyM v).run s1 with
  | bad => rw [e1] at q1; exact absurd q1 id
  | exc a b =>
    exfalso
    cases v with
    | dat d => cases d <;> cases e1
    | ref n =>
      have e2 : (M.bind (get n) fun c => (match c with
        | .lst _ => M.pure ("list" : Str)
        | _ => M.bad)).run s1 = .exc a b := e1
      rw [run_mbind] at e2
      have e0 : (get n).run s1 = (match s1.cells[n]? with
        | some c => .ok c s1
        | none => .bad) := rfl
      rw [e0] at e2
      cases e3 : s1.cells[n]? with
      | none => rw [e3] at e2; cases e2
      | some cc => rw [e3] at e2; cases cc <;> cases e2
  | ok a s2 =>
    rw [e1] at q1
    obtain ⟨e3, n, hn, ty⟩ := ty_of R1 r1 e1
    subst e3
    have q2 : ResG w ι1 H1 (fun c d H' => W c d σ H') (CQ w Q) ((M.pure (Vl.dat (.bl (tyIs a T)))).run s2) := q1
    refine ⟨u, .ty m, .type n, .type m, tyIs a T, rfl, .ty m, by rw [hK]; exact ty, kit_ty (ty_is hn h1 hT), res_bl q2 R1⟩
end
end PI
/-! PI9: what is walked; targets; comprehensions. -/
namespace PI
open PySem PySem.Spec L2 PyProof.Rows
section
variable {P : Prg} {G : Nat → List Vl → M Vl} {w : Wd} {c : Tc} {X : Cx} {W : WT}
/-- the walked list is as it was -/
def SrcOk (items : List Vl) (src : Option Nat) (s : S) : Prop := match src with
  | none => True
  | some n => s.cells[n]? = some (.lst items) ∨ ∃ ns, s.cells[n]? = some (.rol ns) ∧ items = intsV ns
theorem res_stays {items : List Vl} {src : Option Nat} {α : Type} {f : Unit → M α} {ι : List Addr} {H : Hp} {s : S} {W' : Value → Option Addr → Hp → Prop} {C : α → S → List Addr → Hp → Prop} (h : ResG w ι H W' C ((M.bind (stays items src) f).run s)) :
    SrcOk items src s ∧ ResG w ι H W' C ((f ()).run s) := by
  cases src with
  | none => exact ⟨trivial, h⟩
  | some n =>
    have h1 : ResG w ι H W' C ((M.bind (M.bind (get n) fun c => (match c with
      | .lst ys => M.iff (ys = items) (M.pure ())
      | .rol ys => M.iff (intsV ys = items) (M.pure ())
      | _ => M.bad)) f).run s) := h
    rw [mbind_assoc] at h1
    obtain ⟨c, hc, h1⟩ := res_get h1
    cases c with
    | lst ys =>
      obtain ⟨e, h2⟩ := res_iffB h1
      exact ⟨.inl (by rw [← e]; exact hc), h2⟩
    | rol ys =>
      obtain ⟨e, h2⟩ := res_iffB h1
      exact ⟨.inr ⟨ys, hc, e.symm⟩, h2⟩
    | _ => exact absurd h1 id
/-- an iterator gives these items, as long as its list stays -/
structure JOk (w : Wd) (ι0 : List Addr) (H0 : Hp) (items : List Vl) (src : Option Nat) (J : It) : Prop where
  stop : ∀ ι s H, w.R ι s H → Post ι0 H0 ι H → SrcOk items src s → J.stop items.length H
  go : ∀ ι s H i, w.R ι s H → Post ι0 H0 ι H → SrcOk items src s → i < items.length → J.go i H
  yld : ∀ ι s H i x H', w.R ι s H → Post ι0 H0 ι H → SrcOk items src s → i < items.length → J.yld i H x H' → ∃ v, items[i]? = some v ∧ w.R ι s H' ∧ Post ι H ι H' ∧ RepV w.K ι H' x v
def tI (w : Wd) (W : WT) (m : Env → M (List Vl × Option Nat)) : TI := fun σ H R =>
  ∃ ι env s, w.R ι s H ∧ EnvRel w.K ι H env σ ∧ ResG w ι H (fun c d H' => W c d σ H') (fun p _ ι' H' => ∀ J, JOk w ι' H' p.1 p.2 J → R J H') ((m env).run s)
/-- a list in the heap, read at a turn -/
theorem src_list {ι0 ι : List Addr} {H0 H : Hp} {items : List Vl} {n : Nat} {a : Addr} {s : S} (R : w.R ι s H) (p : Post ι0 H0 ι H) (e : ι0[n]? = some a) (h : SrcOk items (some n) s) : ∃ us, SqL w.K H a us ∧ RepVs w.K ι H us items := by
  have e' := p.pre n a e
  rcases h with h | ⟨ns, h, rfl⟩
  · obtain ⟨us, h1, h2⟩ := R.cell n a _ e' h
    exact ⟨us, SqL.of h1, h2⟩
  · exact ⟨_, R.cell n a _ e' h, repvs_ints ns⟩
theorem jok_list {ι0 : List Addr} {H0 : Hp} {items : List Vl} {n : Nat} {a : Addr} (hK : X.K = w.K) (e : ι0[n]? = some a) : JOk w ι0 H0 items (some n) (Itl X.K a) where
  stop := fun ι s H R p h => by
    obtain ⟨us, h1, h2⟩ := src_list R p e h
    rw [hK]
    exact ⟨us, h1, by rw [h2.length]; exact Nat.le_refl _⟩
  go := fun ι s H i R p h hi => by
    obtain ⟨us, h1, h2⟩ := src_list R p e h
    rw [hK]
    obtain ⟨x, hx, _⟩ := pr_get h2 (List.getElem?_eq_getElem hi)
    exact ⟨us, x, h1, hx⟩
  yld := fun ι s H i x H' R p h hi y => by
    obtain ⟨us, h1, h2⟩ := src_list R p e h
    obtain ⟨e1, y⟩ := y
    subst e1
    rw [hK] at y
    have := y us h1
    obtain ⟨v, hv, rv⟩ := pr_getl h2 this
    exact ⟨v, hv, R, Post.refl ι _, rv⟩
theorem jok_tup {ι0 : List Addr} {H0 : Hp} {ds : List D} {a : Addr} {xs : List V} (hK : X.K = w.K) (q : SqT w.K H0 a xs) (pr : Paired (fun u (d : D) => Dp w.K H0 u d.py) xs ds) : JOk w ι0 H0 (ds.map .dat) none (Itt X.K a) where
  stop := fun ι s H R p h => by
    rw [hK]
    exact ⟨xs, sqT_mono p.tup q, by rw [List.length_map, pr.length]; exact Nat.le_refl _⟩
  go := fun ι s H i R p h hi => by
    rw [hK]
    rw [List.length_map, ← pr.length] at hi
    exact ⟨xs, xs[i], sqT_mono p.tup q, List.getElem?_eq_getElem hi⟩
  yld := fun ι s H i x H' R p h hi y => by
    obtain ⟨e1, y⟩ := y
    subst e1
    rw [hK] at y
    have := y xs (sqT_mono p.tup q)
    obtain ⟨d, hd, rd⟩ := pr_getl pr this
    exact ⟨.dat d, by rw [List.getElem?_map, hd]; rfl, R, Post.refl ι _, dp_mono p.tup d x rd⟩
theorem jok_rng {ι0 : List Addr} {H0 : Hp} {lo : Int} {n : Nat} : JOk w ι0 H0 ((List.range n).map fun (k : Nat) => Vl.dat (.int (lo + k))) none (Itr lo n) where
  stop := fun ι s H R p h => by rw [List.length_map, List.length_range]; exact Nat.le_refl _
  go := fun ι s H i R p h hi => by rw [List.length_map, List.length_range] at hi; exact hi
  yld := fun ι s H i x H' R p h hi y => by
    obtain ⟨e1, e2⟩ := y
    subst e1 e2
    rw [List.length_map, List.length_range] at hi
    exact ⟨.dat (.int (lo + i)), by rw [List.getElem?_map, List.getElem?_range hi]; rfl, R, Post.refl ι _, repv_int.mpr rfl⟩
/-- what is walked: an expression's value -/
abbrev itv (P : Prg) (G : Nat → List Vl → M Vl) (k : ItK) (args : List Ex) (env : Env) : M (List Vl × Option Nat) := M.bind (evalEs P G args env) fun vs => itemsM k vs
theorem pi_imp {tg it : Expr} {t t' : TI} (h : PI X tg it t) (f : ∀ σ H R, t' σ H R → t σ H R) : PI X tg it t' := ⟨fun pins s σ H R I q => h.run pins s σ H R I (f σ H R q)⟩
/-- a list or a tuple -/
def iVal (K : PySem.W.Frag) (tl : TE) : TI := fun σ H R => tl σ H fun x H1 => ∃ a, x = .ref a ∧ ((∃ xs, SqL K H1 a xs ∧ R (Itl K a) H1) ∨ (∃ xs, SqT K H1 a xs ∧ R (Itt K a) H1))
theorem pi_val {tg l : Expr} {tl : TE} (hl : PE X l tl) : PI X tg l (iVal X.K tl) := by
  refine ⟨fun pins s σ H R I h => ?_⟩
  refine thn (hl.run pins s σ H _ I h) fun v s1 ⟨x, H1, I1, r1, q1⟩ => ?_
  obtain ⟨a, e, q⟩ := q1
  subst e
  cases r1
  rcases q with ⟨xs, hq, q⟩ | ⟨xs, hq, q⟩
  · obtain ⟨its, rv, p, hz⟩ := I1.list hq
    refine wpAny_pyIter_list p.isList ?_
    refine ⟨s1.heap.objs.size, [s1.heap.objs.size], _, _, H1, rfl, I1.kept (t' := s1.toks) fun b o e => Heap.get?_push_of_some _ e, turn_list a _, ⟨_, Heap.get?_push_size _ rfl, rfl, rfl⟩, fun b hb => ?_, q⟩
    have e : b = s1.heap.objs.size := by simpa using hb
    subst e
    exact I1.fpOk (Nat.le_refl _) (I1.hok.fresh (Nat.le_refl _))
  · obtain ⟨its, rv, p, hz⟩ := I1.tuple hq
    refine wpAny_pyIter_tuple (show s1.heap.IsTuple a its.toArray from p) ?_
    refine ⟨s1.heap.objs.size, [s1.heap.objs.size], _, _, H1, rfl, I1.kept (t' := s1.toks) fun b o e => Heap.get?_push_of_some _ e, turn_tuple a _, ⟨_, Heap.get?_push_size _ rfl, rfl, rfl⟩, fun b hb => ?_, q⟩
    have e : b = s1.heap.objs.size := by simpa using hb
    subst e
    exact I1.fpOk (Nat.le_refl _) (I1.hok.fresh (Nat.le_refl _))
theorem evalEs_one {x : Ex} {env : Env} {α : Type} (f : List Vl → M α) : M.bind (evalEs P G [x] env) f = M.bind (evalE P G x env) fun v => f [v] := M.ext fun s => by
  have e2 : evalEs P G [x] env = M.bind (evalE P G x env) fun v => M.bind (M.pure []) fun vs => M.pure (v :: vs) := by rw [evalEs, evalEs]
  rw [e2, mbind_assoc]
  rfl
theorem gi_val {tg it : Expr} {x : Ex} (hK : X.K = w.K) (h : PE X it (tE w W (evalE P G x))) : PI X tg it (tI w W (itv P G .val [x])) := by
  refine pi_imp (pi_val h) fun σ H R ⟨ι, env, s, Rl, er, h⟩ => ?_
  rw [show itv P G .val [x] env = M.bind (evalE P G x env) fun v => itemsM .val [v] from evalEs_one _] at h
  refine ⟨ι, env, s, Rl, er, (ResG.bind h).mono fun v s1 ι1 H1 R1 p1 q1 u r1 => ?_⟩
  cases v with
  | dat d =>
    cases d with
    | tup ds =>
      obtain ⟨a, xs, e, q, pr⟩ := r1.tup_inv
      refine ⟨a, e, .inr ⟨xs, by rw [hK]; exact q, ?_⟩⟩
      exact q1 ι1 H1 R1 (Post.refl ι1 H1) _ (jok_tup hK q pr)
    | _ => exact absurd q1 id
  | ref n =>
    have q2 : ResG w ι1 H1 (fun c d H' => W c d σ H') (fun p _ ι' H' => ∀ J, JOk w ι' H' p.1 p.2 J → R J H') ((M.bind (get n) fun c => (match c with
      | .lst xs => M.pure (xs, some n)
      | .rol xs => M.pure (intsV xs, some n)
      | _ => M.bad)).run s1) := q1
    obtain ⟨cc, hc, q2⟩ := res_get q2
    obtain ⟨a, e, n1, k⟩ := ref_cell R1 r1 hc
    cases cc with
    | lst xs =>
      obtain ⟨us, k1, k2⟩ := k
      refine ⟨a, e, .inl ⟨us, by rw [hK]; exact SqL.of k1, ?_⟩⟩
      exact q2 ι1 H1 R1 (Post.refl ι1 H1) _ (jok_list hK n1)
    | rol ns =>
      refine ⟨a, e, .inl ⟨_, by rw [hK]; exact k, ?_⟩⟩
      exact q2 ι1 H1 R1 (Post.refl ι1 H1) _ (jok_list hK n1)
    | _ => exact absurd q2 id
theorem evalEs_len : ∀ {xs : List Ex} {env : Env} {s s' : S} {vs : List Vl}, (evalEs P G xs env).run s = .ok vs s' → vs.length = xs.length
  | [], env, s, s', vs, h => by rw [evalEs] at h; cases h; rfl
  | x :: xs, env, s, s', vs, h => by
    rw [evalEs, run_mbind] at h
    cases e : (evalE P G x env).run s with
    | bad => rw [e] at h; cases h
    | exc a b => rw [e] at h; cases h
    | ok v s1 =>
      rw [e] at h
      have h : (M.bind (evalEs P G xs env) fun vs => M.pure (v :: vs)).run s1 = .ok vs s' := h
      rw [run_mbind] at h
      cases e2 : (evalEs P G xs env).run s1 with
      | bad => rw [e2] at h; cases h
      | exc a b => rw [e2] at h; cases h
      | ok ws s2 =>
        rw [e2] at h
        cases h
        rw [List.length_cons, List.length_cons, evalEs_len e2]
theorem res_len {xs : List Ex} {env : Env} {ι : List Addr} {H : Hp} {s : S} {W' : Value → Option Addr → Hp → Prop} {C : List Vl → S → List Addr → Hp → Prop} (h : ResG w ι H W' C ((evalEs P G xs env).run s)) : ResG w ι H W' (fun vs s' ι' H' => vs.length = xs.length ∧ C vs s' ι' H') ((evalEs P G xs env).run s) := by
  cases e : (evalEs P G xs env).run s with
  | bad => rw [e] at h; exact h
  | exc a b => rw [e] at h; exact h
  | ok vs s1 => rw [e] at h; exact fun ι1 H1 R1 p1 => ⟨evalEs_len e, h ι1 H1 R1 p1⟩
/-- range -/
theorem gi_rng1 {tg a : Expr} {xs : List Ex} {p pos : Pos} (hg : Gl X "range") (hm : X.mg "range" = none) (ha : PA X [a] (tA w W (evalEs P G xs))) (hl : xs.length = 1) (hs : starEach [a] X.env = [(false, eval a X.env)]) :
    PI X tg (.Call (.Name "range" p) [a] [] pos) (tI w W (itv P G .rng xs)) := by
  refine pi_imp (pi_range1 hg hm ha hs) fun σ H R ⟨ι, env, s, Rl, er, h⟩ => ?_
  refine ⟨ι, env, s, Rl, er, (res_len (ResG.bind h)).mono fun vs s1 ι1 H1 R1 p1 q1 us r1 => ?_⟩
  obtain ⟨l1, q1⟩ := q1
  rw [hl] at l1
  match vs, l1, r1, q1 with
  | [v], l1, r1, q1 =>
    obtain ⟨u, rfl, r2⟩ := pr1 r1
    cases v with
    | ref n => exact absurd q1 id
    | dat d =>
      cases d with
      | int j =>
        obtain ⟨⟨h1, h2⟩, q2⟩ := (show (-(2 ^ 62) ≤ j ∧ j ≤ 16777216) ∧ _ from res_iffP q1)
        refine ⟨j, by rw [repv_int.mp r2], h1, by omega, ?_⟩
        have q3 := q2 ι1 H1 R1 (Post.refl ι1 H1) (Itr 0 j.toNat)
        refine q3 ?_
        have e : ((List.range j.toNat).map fun (i : Nat) => Vl.dat (.int (i : Int))) = (List.range j.toNat).map fun (k : Nat) => Vl.dat (.int (0 + (k : Int))) := by
          congr 1; funext k; rw [Int.zero_add]
        show JOk w ι1 H1 ((List.range j.toNat).map fun (i : Nat) => Vl.dat (.int (i : Int))) none (Itr 0 j.toNat)
        rw [e]
        exact jok_rng
      | _ => exact absurd q1 id
theorem gi_rng2 {tg a b : Expr} {xs : List Ex} {p pos : Pos} (hg : Gl X "range") (hm : X.mg "range" = none) (ha : PA X [a, b] (tA w W (evalEs P G xs))) (hl : xs.length = 2) (hs : starEach [a, b] X.env = [(false, eval a X.env), (false, eval b X.env)]) (hs2 : starEach [b] X.env = [(false, eval b X.env)]) :
    PI X tg (.Call (.Name "range" p) [a, b] [] pos) (tI w W (itv P G .rng xs)) := by
  refine pi_imp (pi_range2 hg hm ha hs hs2) fun σ H R ⟨ι, env, s, Rl, er, h⟩ => ?_
  refine ⟨ι, env, s, Rl, er, (res_len (ResG.bind h)).mono fun vs s1 ι1 H1 R1 p1 q1 us r1 => ?_⟩
  obtain ⟨l1, q1⟩ := q1
  rw [hl] at l1
  match vs, l1, r1, q1 with
  | [v, v2], l1, r1, q1 =>
    obtain ⟨u, u2, rfl, r2, r3⟩ := pr2 r1
    cases v with
    | ref n => exact absurd q1 id
    | dat d =>
      cases v2 with
      | ref n => cases d <;> exact absurd q1 id
      | dat d2 =>
        cases d with
        | int i =>
          cases d2 with
          | int j =>
            obtain ⟨⟨h1, h2, h3⟩, q2⟩ := (show ((-(2 ^ 62) ≤ i ∧ i < 2 ^ 62) ∧ (-(2 ^ 62) ≤ j ∧ j < 2 ^ 62) ∧ j - i ≤ 16777216) ∧ _ from res_iffP q1)
            refine ⟨i, j, by rw [repv_int.mp r2, repv_int.mp r3], ⟨h1.1, h1.2, h2.1, h2.2⟩, ?_⟩
            exact q2 ι1 H1 R1 (Post.refl ι1 H1) (Itr i (j - i).toNat) jok_rng
          | _ => exact absurd q1 id
        | _ => cases d2 <;> exact absurd q1 id
/-! ### targets -/
def gT (w : Wd) (t : Tg) : TG := fun u σ H Q => ∃ ι env s v, w.R ι s H ∧ EnvRel w.K ι H env σ ∧ RepV w.K ι H u v ∧ ResG w ι H (fun _ _ _ => False) (fun env' _ ι' H' => ∀ σ', EnvRel w.K ι' H' env' σ' → Q σ' H') ((bindTg t v env).run s)
def gTs (w : Wd) (ts : List Tg) : TGs := fun us σ H Q => ∃ ι env s ds, w.R ι s H ∧ EnvRel w.K ι H env σ ∧ Paired (fun u (d : D) => Dp w.K H u d.py) us ds ∧ ResG w ι H (fun _ _ _ => False) (fun env' _ ι' H' => ∀ σ', EnvRel w.K ι' H' env' σ' → Q σ' H') ((bindTgs ts ds env).run s)
theorem pg_imp {tg : Expr} {t t' : TG} (h : PG X tg t) (f : ∀ v σ H Q, t' v σ H Q → t v σ H Q) : PG X tg t' := ⟨fun pins s σ H v u Q I r q => h.run pins s σ H v u Q I r (f v σ H Q q)⟩
theorem pgs_imp {tg : List Expr} {t t' : TGs} (h : PGs X tg t) (f : ∀ v σ H Q, t' v σ H Q → t v σ H Q) : PGs X tg t' := ⟨fun pins s σ H v u Q I r q => h.run pins s σ H v u Q I r (f v σ H Q q)⟩
theorem gt_name {i : Nat} {x : Str} {pos : Pos} (hN : X.N.Nodup) (hi : X.N[i]? = some x) (hx : Loc X.env.scope x) (hf : X.fn x = true ∨ X.env.scope.names.lookup x = some .local) : PG X (.Name x pos) (gT w (.nm i)) := by
  refine pg_imp (pg_name hN hi hx hf) fun u σ H Q ⟨ι, env, s, v, R, er, r, h⟩ => ?_
  rw [bindTg] at h
  exact h ι H R (Post.refl ι H) _ (er.set r)
theorem gts_nil : PGs X [] (gTs w []) := by
  refine pgs_imp pgs_nil fun us σ H Q ⟨ι, env, s, ds, R, er, r, h⟩ => ?_
  cases ds with
  | nil =>
    cases r
    rw [bindTgs] at h
    exact ⟨rfl, h ι H R (Post.refl ι H) _ er⟩
  | cons d ds => exact absurd h id
theorem gts_cons {e : Expr} {es : List Expr} {t : Tg} {ts : List Tg} (h1 : PG X e (gT w t)) (h2 : PGs X es (gTs w ts)) (hs : (assignEach (e :: es) X.env).map (·.2) = assign e X.env :: (assignEach es X.env).map (·.2)) : PGs X (e :: es) (gTs w (t :: ts)) := by
  refine pgs_imp (pgs_cons h1 h2 hs) fun us σ H Q ⟨ι, env, s, ds, R, er, r, h⟩ => ?_
  cases ds with
  | nil => exact absurd h id
  | cons d ds =>
    cases r with
    | cons r1 r2 =>
      rw [bindTgs] at h
      refine ⟨_, _, rfl, ι, env, s, .dat d, R, er, r1, (ResG.bind h).mono fun env1 s1 ι1 H1 R1 p1 q1 σ1 er1 => ?_⟩
      exact ⟨ι1, env1, s1, ds, R1, er1, pr_mono r2 fun u d _ q => dp_mono p1.tup d u q, q1⟩
theorem gt_tup {es : List Expr} {k : Nat} {pos : Pos} {ts : List Tg} (hK : X.K = w.K) (hc : X.calm = true) (h : PGs X es (gTs w ts)) (hn : (assignEach es X.env).length = ts.length) (hst : (assignEach es X.env).findIdx? (·.1) = none) : PG X (.Tuple es k pos) (gT w (.tp ts)) := by
  refine pg_imp (pg_tup hc h hn hst) fun u σ H Q ⟨ι, env, s, v, R, er, r, h⟩ => ?_
  cases v with
  | ref n => exact absurd h id
  | dat d =>
    cases d with
    | tup ds =>
      obtain ⟨hl, h⟩ := res_iffP (c := ds.length = ts.length) (m := bindTgs ts ds env) h
      obtain ⟨a, xs, e, q, pr⟩ := r.tup_inv
      exact ⟨a, xs, e, by rw [hK]; exact q, by rw [pr.length, hl], ι, env, s, ds, R, er, pr, h⟩
    | _ => exact absurd h id
/-! ### comprehensions -/
theorem wipe_rel {ι : List Addr} {H : Hp} {env : Env} {σ : L2.St} (er : EnvRel w.K ι H env σ) : ∀ own : List Nat, EnvRel w.K ι H (wipeE env own) (wipe σ own)
  | [] => er
  | v :: vs => by
    have ih := wipe_rel er vs
    refine ⟨?_, fun i x e => ?_⟩
    · show ((wipeE env vs).set v none).length = ((wipe σ vs).set v none).length
      rw [List.length_set, List.length_set]; exact ih.1
    · have e' : ((wipeE env vs).set v none)[i]? = some (some x) := e
      by_cases hi : v = i
      · subst hi
        by_cases hl : v < (wipeE env vs).length
        · rw [List.getElem?_set_self hl] at e'; cases e'
        · rw [List.getElem?_eq_none (by simpa using hl)] at e'; cases e'
      · rw [List.getElem?_set_ne hi] at e'
        obtain ⟨u, h1, h2⟩ := ih.2 i x e'
        exact ⟨u, by show ((wipe σ vs).set v none)[i]? = _; rw [List.getElem?_set_ne hi]; exact h1, h2⟩
mutual
def gC (K : PySem.W.Frag) : Tg → TG
  | .nm i => gName i
  | .tp ts => gTup K ts.length (gCs K ts)
def gCs (K : PySem.W.Frag) : List Tg → TGs
  | [] => gNil
  | t :: ts => gCons (gC K t) (gCs K ts)
end
theorem wipe_set {σ : L2.St} {i : Nat} {o : Option V} : ∀ {own : List Nat}, i ∈ own → wipe (σ.set i o) own = wipe σ own
  | v :: vs, h => by
    show (wipe (σ.set i o) vs).set v none = (wipe σ vs).set v none
    by_cases hv : i ∈ vs
    · rw [wipe_set hv]
    · have : i = v := by rcases List.mem_cons.mp h with e | e; exact e; exact absurd e hv
      subst this
      have key : ∀ {vs : List Nat}, i ∉ vs → wipe (σ.set i o) vs = (wipe σ vs).set i o := by
        intro vs
        induction vs with
        | nil => intro _; rfl
        | cons a vs ih =>
          intro hn
          have h1 : i ≠ a := fun e => hn (by rw [e]; exact List.mem_cons_self ..)
          have h2 : i ∉ vs := fun e => hn (List.mem_cons_of_mem _ e)
          show (wipe (σ.set i o) vs).set a none = ((wipe σ vs).set a none).set i o
          rw [ih h2, List.set_comm _ _ h1]
      rw [key hv, List.set_set]

theorem mbind_ok {α β : Type} {m : M α} {f : α → M β} {s s' : S} {b : β} (h : (M.bind m f).run s = .ok b s') : ∃ a s1, m.run s = .ok a s1 ∧ (f a).run s1 = .ok b s' := by
  rw [run_mbind] at h
  cases e : m.run s with
  | bad => rw [e] at h; cases h
  | exc a b => rw [e] at h; cases h
  | ok a s1 => rw [e] at h; exact ⟨a, s1, rfl, h⟩
mutual
theorem gC_of {own : List Nat} {ι : List Addr} {H : Hp} : ∀ (t : Tg) {u : V} {v : Vl} {env env' : Env} {σ : L2.St} {s s' : S} {Q : L2.St → Hp → Prop}, RepV w.K ι H u v → (bindTg t v env).run s = .ok env' s' → EnvRel w.K ι H env σ → tgIn own t = true →
    (∀ σ2, EnvRel w.K ι H env' σ2 → wipe σ2 own = wipe σ own → Q σ2 H) → gC w.K t u σ H Q
  | .nm i, u, v, env, env', σ, s, s', Q, r, h, er, hi, q => by
    rw [bindTg] at h
    cases h
    rw [tgIn] at hi
    rw [gC]
    exact q _ (er.set r) (wipe_set (of_decide_eq_true hi))
  | .tp ts, u, v, env, env', σ, s, s', Q, r, h, er, hi, q => by
    rw [tgIn] at hi
    rw [gC]
    cases v with
    | ref n => cases h
    | dat d =>
      cases d with
      | tup ds =>
        have h : (M.iff (ds.length = ts.length) (bindTgs ts ds env)).run s = .ok env' s' := h
        by_cases hl : ds.length = ts.length
        · rw [M.iff_pos hl] at h
          obtain ⟨a, xs, e, q1, pr⟩ := r.tup_inv
          exact ⟨a, xs, e, q1, by rw [pr.length, hl], gCs_of ts pr h er hi q⟩
        · rw [M.iff_neg hl] at h; cases h
      | _ => cases h
theorem gCs_of {own : List Nat} {ι : List Addr} {H : Hp} : ∀ (ts : List Tg) {us : List V} {ds : List D} {env env' : Env} {σ : L2.St} {s s' : S} {Q : L2.St → Hp → Prop}, Paired (fun u (d : D) => Dp w.K H u d.py) us ds → (bindTgs ts ds env).run s = .ok env' s' → EnvRel w.K ι H env σ → tgsIn own ts = true →
    (∀ σ2, EnvRel w.K ι H env' σ2 → wipe σ2 own = wipe σ own → Q σ2 H) → gCs w.K ts us σ H Q
  | [], us, ds, env, env', σ, s, s', Q, pr, h, er, hi, q => by
    cases pr with
    | nil =>
      rw [bindTgs] at h
      cases h
      rw [gCs]
      exact ⟨rfl, q σ er rfl⟩
    | cons r t => cases h
  | t :: ts, us, ds, env, env', σ, s, s', Q, pr, h, er, hi, q => by
    cases pr with
    | nil => cases h
    | cons r pr =>
      rw [bindTgs] at h
      rw [tgsIn, Bool.and_eq_true_iff] at hi
      obtain ⟨env1, s1, h1, h2⟩ := mbind_ok h
      rw [gCs]
      refine ⟨_, _, rfl, gC_of (v := .dat _) (ι := ι) t r h1 er hi.1 fun σ1 er1 e1 => gCs_of ts pr h2 er1 hi.2 fun σ2 er2 e2 => q σ2 er2 (e2.trans e1)⟩
end
mutual
theorem bind_state : ∀ (t : Tg) {v : Vl} {env env' : Env} {s s' : S}, (bindTg t v env).run s = .ok env' s' → s' = s
  | .nm i, v, env, env', s, s', h => by rw [bindTg] at h; cases h; rfl
  | .tp ts, v, env, env', s, s', h => by
    cases v with
    | ref n => cases h
    | dat d =>
      cases d with
      | tup ds =>
        have h : (M.iff (ds.length = ts.length) (bindTgs ts ds env)).run s = .ok env' s' := h
        by_cases hl : ds.length = ts.length
        · rw [M.iff_pos hl] at h; exact binds_state ts h
        · rw [M.iff_neg hl] at h; cases h
      | _ => cases h
theorem binds_state : ∀ (ts : List Tg) {ds : List D} {env env' : Env} {s s' : S}, (bindTgs ts ds env).run s = .ok env' s' → s' = s
  | [], ds, env, env', s, s', h => by
    cases ds with
    | nil => rw [bindTgs] at h; cases h; rfl
    | cons d ds => cases h
  | t :: ts, ds, env, env', s, s', h => by
    cases ds with
    | nil => cases h
    | cons d ds =>
      rw [bindTgs] at h
      obtain ⟨env1, s1, h1, h2⟩ := mbind_ok h
      rw [binds_state ts h2, bind_state t h1]
end
theorem noX_ok {α : Type} {m : M α} {s s' : S} {a : α} (h : (noX m).run s = .ok a s') : m.run s = .ok a s' := by
  have e : (noX m).run s = (match m.run s with
    | .ok a s' => .ok a s'
    | _ => .bad) := rfl
  rw [e] at h
  cases e2 : m.run s with
  | bad => rw [e2] at h; cases h
  | exc a b => rw [e2] at h; cases h
  | ok a s1 => rw [e2] at h; exact h
theorem res_noX {α β : Type} {m : M α} {f : α → M β} {ι : List Addr} {H : Hp} {s : S} {W' : Value → Option Addr → Hp → Prop} {C : β → S → List Addr → Hp → Prop} (h : ResG w ι H W' C ((M.bind (noX m) f).run s)) : ∃ a s1, m.run s = .ok a s1 ∧ ResG w ι H W' C ((f a).run s1) := by
  rw [run_mbind] at h
  cases e : (noX m).run s with
  | bad => rw [e] at h; exact absurd h id
  | exc a b =>
    exfalso
    have e1 : (noX m).run s = (match m.run s with
      | .ok a s' => .ok a s'
      | _ => .bad) := rfl
    rw [e1] at e
    cases e2 : m.run s with
    | bad => rw [e2] at e; cases e
    | exc a b => rw [e2] at e; cases e
    | ok a s1 => rw [e2] at e; cases e
  | ok a s1 => rw [e] at h; exact ⟨a, s1, noX_ok e, h⟩
theorem stays_ok {items : List Vl} {src : Option Nat} {s s' : S} (h : (stays items src).run s = .ok () s') : SrcOk items src s ∧ s' = s := by
  cases src with
  | none => cases h; exact ⟨trivial, rfl⟩
  | some n =>
    have h : (M.bind (get n) fun c => (match c with
      | .lst ys => M.iff (ys = items) (M.pure ())
      | .rol ys => M.iff (intsV ys = items) (M.pure ())
      | _ => M.bad)).run s = .ok () s' := h
    obtain ⟨c, sb, g1, g2⟩ := mbind_ok h
    have e : (get n).run s = (match s.cells[n]? with
      | some c => .ok c s
      | none => .bad) := rfl
    rw [e] at g1
    cases e3 : s.cells[n]? with
    | none => rw [e3] at g1; cases g1
    | some c2 =>
      rw [e3] at g1
      cases g1
      cases c with
      | lst ys =>
        have g2 : (M.iff (ys = items) (M.pure ())).run s = .ok () s' := g2
        by_cases hh : ys = items
        · rw [M.iff_pos hh] at g2; cases g2; subst hh; exact ⟨.inl e3, rfl⟩
        · rw [M.iff_neg hh] at g2; cases g2
      | rol ys =>
        have g2 : (M.iff (intsV ys = items) (M.pure ())).run s = .ok () s' := g2
        by_cases hh : intsV ys = items
        · rw [M.iff_pos hh] at g2; cases g2; exact ⟨.inr ⟨ys, e3, hh.symm⟩, rfl⟩
        · rw [M.iff_neg hh] at g2; cases g2
      | _ => cases g2
theorem upd_ok {β : Type} {n : Nat} {U : Upd β} {s s' : S} {x : β} (h : (updC n U).run s = .ok x s') : ∃ c c', s.cells[n]? = some c ∧ U.f c = some (c', x) ∧ s' = ⟨s.cells.set n c', U.extra.map (fun r => (n, r)) ++ s.log⟩ := by
  have e : (updC n U).run s = (match s.cells[n]? with
    | some c => match U.f c with
      | some (c', x) => .ok x ⟨s.cells.set n c', U.extra.map (fun r => (n, r)) ++ s.log⟩
      | none => .bad
    | none => .bad) := rfl
  rw [e] at h
  cases e3 : s.cells[n]? with
  | none => rw [e3] at h; cases h
  | some c =>
    rw [e3] at h
    simp only [] at h
    cases e4 : U.f c with
    | none => rw [e4] at h; cases h
    | some pr =>
      obtain ⟨c3, x3⟩ := pr
      rw [e4] at h
      cases h
      exact ⟨c, c3, rfl, e4, rfl⟩
theorem wipe_get (σ : L2.St) (i : Nat) : ∀ vs : List Nat, (wipe σ vs)[i]? = if i ∈ vs ∧ i < σ.length then some none else σ[i]?
  | [] => by simp [wipe]
  | v :: vs => by
    show ((wipe σ vs).set v none)[i]? = _
    by_cases hv : v = i
    · subst hv
      by_cases hl : v < σ.length
      · rw [List.getElem?_set_self (by rw [wipe_length]; exact hl), if_pos ⟨List.mem_cons_self .., hl⟩]
      · rw [List.getElem?_eq_none (by simp [wipe_length]; omega), if_neg (fun h => hl h.2), List.getElem?_eq_none (by omega)]
    · rw [List.getElem?_set_ne hv, wipe_get σ i vs]
      have : (i ∈ v :: vs) ↔ i ∈ vs := by
        rw [List.mem_cons]
        exact ⟨fun h => h.elim (fun e => absurd e.symm hv) id, .inr⟩
      simp only [this]
theorem wipe_wipe (σ : L2.St) (vs : List Nat) : wipe (wipe σ vs) vs = wipe σ vs := by
  apply List.ext_getElem?
  intro i
  rw [wipe_get (wipe σ vs), wipe_length, wipe_get σ]
  split <;> rfl
/-- a run that is known to end: what it gives is known -/
theorem res_known {α : Type} {m : M α} {ι : List Addr} {H : Hp} {s s' : S} {a : α} {W' : Value → Option Addr → Hp → Prop} {C : α → S → List Addr → Hp → Prop} (e : m.run s = .ok a s') (h : ∀ ι' H', w.R ι' s' H' → Post ι H ι' H' → C a s' ι' H') : ResG w ι H W' C (m.run s) := by
  rw [e]; exact h
abbrev WF : WT := fun _ _ _ _ => False
/-- the tests of a comprehension: none or one -/
def tIfs (w : Wd) (P : Prg) (G : Nat → List Vl → M Vl) : List Ex → TT
  | [x] => tT w WF (tst P G x)
  | _ => tYes
theorem g_lc {elt tg iter : Expr} {ifs : List Expr} {scope : Scope} {own : List (Str × Nat)} {pos : Pos} {x : Ex} {t : Tg} {k : ItK} {args ifx : List Ex} (hK : X.K = w.K) (hc : X.calm = true) (hN : X.N.Nodup) (hi : PI X tg iter (tI w W (itv P G k args)))
    (ok : BlkOk X.N X.env.scope scope own) (hg : ∀ (s : Shared) (H : Hp) (C : Addr) (cl : List (Str × Addr)) (fp : List Addr), PG (X.blk s H scope (compEnvC scope cl C X.env) fp) tg (gC w.K t))
    (ht : ∀ (s : Shared) (H : Hp) (C : Addr) (cl : List (Str × Addr)) (fp : List Addr), PTs (X.blk s H scope (compEnvC scope cl C X.env) fp) ifs (tIfs w P G ifx)) (hl : ifx.length ≤ 1)
    (he : ∀ (s : Shared) (H : Hp) (C : Addr) (cl : List (Str × Addr)) (fp : List Addr), PE (X.blk s H scope (compEnvC scope cl C X.env) fp) elt (tE w WF (evalE P G x))) (hs : ∀ v, foldedSetIterable iter X.env v = pure v) (hin : tgIn (own.map (·.2)) t = true)
    {σ : L2.St} {H : Hp} {Q : VK} (h : tE w W (evalE P G (.lc x t k args ifx (own.map (·.2)))) σ H Q) : tLc (tI w W (itv P G k args)) (gC w.K t) (tIfs w P G ifx) (tE w WF (evalE P G x)) (own.map (·.2)) σ H Q := by
  obtain ⟨ι, env, s, R, er, h⟩ := h
  rw [evalE] at h
  have h2 : ResG w ι H (fun c d H' => W c d σ H') (CQ w Q) ((M.bind (itv P G k args env) fun p => M.bind (alloc (.lst [])) fun o =>
      M.bind (noX (lcGo p.1 p.2 (fun v => M.bind (bindTg t v (wipeE env (own.map (·.2)))) fun env1 => M.bind (evalIfs P G ifx env1) fun b => match b with
        | true => M.bind (evalE P G x env1) fun y => M.pure (some y)
        | false => M.pure none) o p.1)) fun _ => M.pure o).run s) := by
    rw [mbind_assoc]; exact h
  refine ⟨ι, env, s, R, er, (ResG.bind h2).mono fun p s1 ι1 H1 R1 p1 q1 J jok D hD => ?_⟩
  obtain ⟨items, src⟩ := p
  -- the new list is a cell of the store
  have RD : w.R (ι1 ++ [D]) ⟨s1.cells ++ [.lst []], s1.log⟩ (L2.upd H1 D (.lst [])) := R1.push hD ⟨[], upd_same, .nil⟩
  have pD : Post ι1 H1 (ι1 ++ [D]) (L2.upd H1 D (.lst [])) := post_new hD
  have q2 := q1.from pD
  rw [run_mbind, run_alloc, bind_ok] at q2
  obtain ⟨_, s2, run, q3⟩ := res_noX q2
  have iD : (ι1 ++ [D])[s1.cells.length]? = some D := by rw [← R1.len]; simp
  refine ⟨fun i m Hc => i + m = items.length ∧ ∃ ι' s', w.R ι' s' Hc ∧ Post (ι1 ++ [D]) (L2.upd H1 D (.lst [])) ι' Hc ∧ (lcGo items src (fun v => M.bind (bindTg t v (wipeE env (own.map (·.2)))) fun env1 => M.bind (evalIfs P G ifx env1) fun b => match b with
        | true => M.bind (evalE P G x env1) fun y => M.pure (some y)
        | false => M.pure none) (.ref s1.cells.length) (items.drop i)).run s' = .ok () s2, ⟨items.length, by omega, _, _, RD, Post.refl _ _, run⟩, ?_⟩
  rintro i m Hc ⟨him, ι', s', Rc, pc, rn⟩
  have jc : Post ι1 H1 ι' Hc := pD.trans pc
  have ec : EnvRel w.K ι' Hc env σ := (er.mono p1).mono jc
  by_cases hi : i < items.length
  · -- one more turn
    refine .inr ?_
    rw [List.drop_eq_getElem_cons hi] at rn
    rw [lcGo] at rn
    obtain ⟨_, sa, st1, rn1⟩ := mbind_ok rn
    obtain ⟨src_ok, e0⟩ := stays_ok st1
    subst e0
    clear rn
    refine ⟨jok.go ι' _ Hc i Rc jc src_ok hi, fun Hn => ∃ m', m' < m ∧ (i + 1 + m' = items.length ∧ ∃ ι' s', w.R ι' s' Hn ∧ Post (ι1 ++ [D]) (L2.upd H1 D (.lst [])) ι' Hn ∧ (lcGo items src (fun v => M.bind (bindTg t v (wipeE env (own.map (·.2)))) fun env1 => M.bind (evalIfs P G ifx env1) fun b => match b with
        | true => M.bind (evalE P G x env1) fun y => M.pure (some y)
        | false => M.pure none) (.ref s1.cells.length) (items.drop (i + 1))).run s' = .ok () s2), fun H' h => h, fun u Hy y => ?_⟩
    obtain ⟨v, hv, Ry, py, rv⟩ := jok.yld ι' _ Hc i u Hy Rc jc src_ok hi y
    rw [List.getElem?_eq_getElem hi] at hv
    obtain ⟨oy, sb, r1, rn2⟩ := mbind_ok rn1
    obtain ⟨_, sc, r2, rn3⟩ := mbind_ok rn2
    clear rn1 rn2
    obtain ⟨env1, sd, r3, r4⟩ := mbind_ok r1
    have e1 := bind_state t r3
    subst e1
    cases hv
    have ey : EnvRel w.K ι' Hy env σ := ec.mono py
    refine gC_of t rv r3 (wipe_rel ey _) hin fun σ2 er2 ew => ⟨ew.trans (wipe_wipe σ _), ?_⟩
    obtain ⟨b, se, r5, r6⟩ := mbind_ok r4
    have core : ∀ ι3 H3, w.R ι3 se H3 → Post ι' Hy ι3 H3 → (if b = true then tE w WF (evalE P G x) σ2 H3 fun y H4 => ∃ acc, H4 D = some (.lst acc) ∧ acc.length < sizeLine ∧ (∃ m', m' < m ∧ (i + 1 + m' = items.length ∧ ∃ ι' s', w.R ι' s' (L2.upd H4 D (.lst (acc ++ [y]))) ∧ Post (ι1 ++ [D]) (L2.upd H1 D (.lst [])) ι' (L2.upd H4 D (.lst (acc ++ [y]))) ∧ (lcGo items src (fun v => M.bind (bindTg t v (wipeE env (own.map (·.2)))) fun env1 => M.bind (evalIfs P G ifx env1) fun b => match b with
        | true => M.bind (evalE P G x env1) fun y => M.pure (some y)
        | false => M.pure none) (.ref s1.cells.length) (items.drop (i + 1))).run s' = .ok () s2)) else (∃ m', m' < m ∧ (i + 1 + m' = items.length ∧ ∃ ι' s', w.R ι' s' H3 ∧ Post (ι1 ++ [D]) (L2.upd H1 D (.lst [])) ι' H3 ∧ (lcGo items src (fun v => M.bind (bindTg t v (wipeE env (own.map (·.2)))) fun env1 => M.bind (evalIfs P G ifx env1) fun b => match b with
        | true => M.bind (evalE P G x env1) fun y => M.pure (some y)
        | false => M.pure none) (.ref s1.cells.length) (items.drop (i + 1))).run s' = .ok () s2))) := fun ι3 H3 R3 p3 => by
      cases b with
      | false =>
        rw [if_neg (by decide)]
        cases r6
        cases r2
        exact ⟨m - 1, by omega, by omega, ι3, _, R3, (pc.trans py).trans p3, rn3⟩
      | true =>
        rw [if_pos rfl]
        obtain ⟨yv, sf, r7, r8⟩ := mbind_ok r6
        cases r8
        refine ⟨ι3, env1, se, R3, er2.mono p3, res_known r7 fun ι4 H4 R4 p4 u4 r4' => ?_⟩
        have r2 : (M.bind (updC s1.cells.length (uApp yv)) fun _ => M.pure ()).run _ = .ok () sc := r2
        obtain ⟨z, sg, r9, r10⟩ := mbind_ok r2
        cases r10
        obtain ⟨c, c', k1, k2, k3⟩ := upd_ok r9
        subst k3
        have ip : ι4[s1.cells.length]? = some D := p4.pre _ _ (p3.pre _ _ (py.pre _ _ (pc.pre _ _ iD)))
        have kc := R4.cell _ D c ip k1
        cases c with
        | lst ws =>
          have k2 : (if ws.length < sizeLine then some (Cell.lst (ws ++ [yv]), Vl.dat .non) else none) = some (c', z) := k2
          by_cases hz : ws.length < sizeLine
          · rw [if_pos hz] at k2
            cases k2
            obtain ⟨us, g1, g2⟩ := kc
            have pw : Post ι4 H4 ι4 (L2.upd H4 D (.lst (us ++ [u4]))) := post_write ip g1 trivial
            exact ⟨us, g1, by rw [g2.length]; exact hz, m - 1, by omega, by omega, ι4, _, R4.write (c' := .lst (ws ++ [yv])) (o' := .lst (us ++ [u4])) ip k1 (fun _ z => nomatch z) g1 trivial ⟨_, upd_same, RepVs.mono pw (pr_append g2 (.cons r4' .nil))⟩, (((pc.trans py).trans p3).trans p4).trans pw, rn3⟩
          · rw [if_neg hz] at k2; cases k2
        | _ => cases k2
    match ifx, hl, r5, core with
    | [], _, r5, core =>
      rw [evalIfs] at r5
      cases r5
      exact core ι' Hy Ry (Post.refl _ _)
    | [z], _, r5, core =>
      refine ⟨ι', env1, _, Ry, er2, res_known (a := b) (s' := se) ?_ core⟩
      rw [evalIfs] at r5
      have e5 : (fun k => (match k with
        | true => evalIfs P G [] env1
        | false => M.pure false : M Bool)) = M.pure := by
        funext k
        cases k with
        | true => rw [evalIfs]
        | false => rfl
      have e7 : tst P G z env1 = M.bind (M.bind (evalE P G z env1) truM) M.pure := M.ext fun s => by
        show _ = ((M.bind (evalE P G z env1) truM).run s).bind fun a s' => (M.pure a).run s'
        cases (M.bind (evalE P G z env1) truM).run s <;> rfl
      rw [e7, ← e5, mbind_assoc]
      exact r5
  · have e : i = items.length := by omega
    subst e
    refine .inl ?_
    rw [List.drop_length] at rn
    rw [lcGo] at rn
    obtain ⟨_, sa, st1, rn1⟩ := mbind_ok rn
    obtain ⟨src_ok, e0⟩ := stays_ok st1
    subst e0
    clear rn
    cases rn1
    refine ⟨jok.stop ι' _ Hc Rc jc src_ok, ?_⟩
    exact q3 ι' Hc Rc pc _ ⟨D, pc.pre _ _ iD, rfl⟩
end
end PI
/-! PIR: a list or a tuple turned round: a[::-1]. -/
namespace PI
open PySem PySem.Spec L2 PyProof.Rows HT
section
variable {prog : Program} {w : World} {A : Around} {E : Value → Shared → Prop} {s : Shared}
theorem rev_pick (xs : Array Value) : ((List.range xs.size).filterMap fun (k : Nat) => xs[(((xs.size : Int) - 1) + (k : Int) * (-1)).toNat]?).toArray = xs.toList.reverse.toArray := by
  have h1 : ((List.range xs.size).filterMap fun (k : Nat) => xs[(((xs.size : Int) - 1) + (k : Int) * (-1)).toNat]?) = ((List.range xs.size).map fun k => xs.size - 1 - k).filterMap (xs[·]?) := by
    rw [List.filterMap_map]
    congr 1
    funext k
    show xs[(((xs.size : Int) - 1) + (k : Int) * (-1)).toNat]? = xs[xs.size - 1 - k]?
    have : (((xs.size : Int) - 1) + (k : Int) * (-1)).toNat = xs.size - 1 - k := by omega
    rw [this]
  rw [h1, PySem.W.krv_range, List.filterMap_reverse, PySem.W.krv_all]
theorem rev_places (n : Nat) : Builtin.Slice.slicePlaces ((n : Int) - 1) (-1) (-1) = n := by
  unfold Builtin.Slice.slicePlaces
  have h1 : ¬ ((-1 : Int) > 0) := by omega
  simp only [h1, if_false]
  have e : -(-1 : Int) = 1 := by decide
  rw [e, Int.ediv_one]
  split <;> omega
theorem rev_adjust (n : Nat) : Builtin.Slice.sliceAdjust none none (-1) (n : Int) = ((n : Int) - 1, -1) := by
  unfold Builtin.Slice.sliceAdjust
  have h1 : ((-1 : Int) < 0) := by omega
  simp only [h1, if_true]
theorem applied_rev {sl : Addr} {u : Tok} {n : Nat} {Q : Int × Int × Nat → Shared → Prop} (hs : s.heap.IsSliceOf sl .none .none (.int (-1) u))
    (h : Q (((n : Int) - 1), -1, n) s) : wpAny (model prog w) A (Builtin.Slice.sliceApplied (.ref sl) (pure (n : Int))) Q E s := by
  obtain ⟨os, hos, hcs, hds⟩ := id hs
  unfold Builtin.Slice.sliceApplied Builtin.Slice.sliceFields
  refine wpAny_bind (wpAny_bind (wpAny_field hos hds (x := .none) rfl (wpAny_bind (wpAny_field hos hds (x := .none) rfl (wpAny_bind (wpAny_field hos hds (x := .int (-1) u) rfl (wpAny_pure ?_)))))))
  refine wpAny_bind (slicePart_int ?_)
  show wpAny _ _ (if ((-1 : Int) == 0) = true then _ else _) _ _ s
  rw [if_neg (by decide)]
  refine wpAny_bind (slicePart_none (wpAny_bind (slicePart_none (wpAny_bind (wpAny_pure ?_)))))
  show wpAny _ _ (match Builtin.Slice.sliceAdjust none none (-1) (n : Int) with | (lo, hi) => pure (lo, (-1 : Int), Builtin.Slice.slicePlaces lo hi (-1))) _ _ s
  rw [rev_adjust n]
  show wpAny _ _ (pure ((n : Int) - 1, (-1 : Int), Builtin.Slice.slicePlaces ((n : Int) - 1) (-1) (-1))) _ _ s
  rw [rev_places]
  exact wpAny_pure h
theorem getItem_tuple_rev {t sl : Addr} {items : Array Value} {u : Tok} {Q : Value → Shared → Prop} (ht : IsTup s.heap t items) (hs : s.heap.IsSliceOf sl .none .none (.int (-1) u))
    (h : Q (.ref s.heap.objs.size) { s with heap := s.heap.push { cls := .type "tuple", data := .seq items.toList.reverse.toArray } })
    (hsz : items.size ≤ sizeLine) : wpAny (model prog w) A (getItem (.ref t) (.ref sl)) Q E s := by
  have htake : sizeOk (.seq items.toList.reverse.toArray) := by
    show (items.toList.reverse.toArray).size ≤ sizeLine
    rw [List.size_toArray, List.length_reverse, Array.length_toList]
    exact hsz
  obtain ⟨os, hos, hcs, hds⟩ := id hs
  have hTs : s.TypeIs (.ref sl) "slice" := ⟨os, hos, hcs⟩
  unfold getItem
  try with_reducible refine wpAny_holding ?_
  first | refine wpAny_bind (wpAny_pure ?_) | skip
  refine wpAny_bind (wpAny_sequenceKey ht.typeIs (by decide) ?_)
  refine wpAny_bind (wpAny_callSpecial?_slot (name := Str.ofString "__getitem__") ht.typeIs PyProof.Rows.slot_tuple_getitem
    (wpAny_call_entry PyProof.Rows.slot_tuple_getitem ht.typeIs entry_tuple_getitem ?_ (args_tuple_getitem _ _)))
  show wpAny _ _ (Builtin.Tuple.tupleItemsOf (.ref t) >>= _) _ _ s
  refine wpAny_bind (tupleItemsOf_ ht ?_)
  refine wpAny_bind (wpAny_typeOf hTs ?_)
  rw [if_pos (by decide)]
  refine wpAny_bind (applied_rev hs ?_)
  have hno : ¬ ((((items.size : Int) - 1) == 0 && (-1 : Int) == 1 && items.size == items.size) = true) := by
    intro q
    rw [Bool.and_eq_true, Bool.and_eq_true] at q
    exact absurd (eq_of_beq q.1.2) (by decide)
  show wpAny _ _ (if (((items.size : Int) - 1) == 0 && (-1 : Int) == 1 && items.size == items.size) = true then _ else _) _ _ s
  rw [if_neg hno, rev_pick]
  first
    | exact wpAny_bind (m := Builtin.Tuple.tupleExact _) (wpAny_newObj_type (wpAny_pure ⟨_, rfl, wpAny_pure h⟩) htake)
    | exact wpAny_bind (m := Builtin.Tuple.tupleExact _) (wpAny_newObj_type (wpAny_bind (wpAny_pure (wpAny_pure ⟨_, rfl, wpAny_pure h⟩))) htake)
    | exact wpAny_bind (wpAny_bind (m := Builtin.Tuple.tupleExact _) (wpAny_newObj_type (wpAny_pure (wpAny_pure ⟨_, rfl, wpAny_pure h⟩)) htake))
    | exact wpAny_bind (wpAny_bind (m := Builtin.Tuple.tupleExact _) (wpAny_newObj_type (wpAny_pure ⟨_, rfl, wpAny_pure h⟩) htake))
end
section
variable {X : Cx}
def tRevT (K : PySem.W.Frag) (te : TE) : TE := fun σ H Q => te σ H fun x H1 => ∃ a, x = .ref a ∧ ((∃ xs, SqL K H1 a xs ∧ ∀ p, H1 p = none → Q (.ref p) (L2.upd H1 p (.lst xs.reverse))) ∨ (∃ xs, SqT K H1 a xs ∧ ∀ p, H1 p = none → Q (.ref p) (L2.upd H1 p (.tup xs.reverse))))
theorem pe_revT {e : Expr} {te : TE} {k : Nat} {p1 p2 p3 pos : Pos} (he : PE X e te) : PE X (.Subscript e (.Slice none none (some (.UnaryOp .USub (.Constant (.int 1) k p1) p2)) p3) pos) (tRevT X.K te) := by
  refine ⟨fun pins s σ H Q I h => ?_⟩
  refine Subscript_ (thn (he.run pins s σ H _ I h) fun v s1 ⟨x, H1, I1, r1, q1⟩ => ?_)
  obtain ⟨a, ex, q⟩ := q1
  subst ex
  cases r1
  have hst : PO X (some (.UnaryOp .USub (.Constant (.int 1) k p1) p2)) (tPart (tUn (rU fun i => .int (-i)) (tC (.int 1)))) := po_some (pe_un un_neg pe_int)
  refine wpAny_Slice (thn (po_none.run pins s1 σ H1 (fun o H2 => o = none ∧ H2 = H1) I1 ⟨rfl, rfl⟩) fun vl s2 ⟨l, H2, I2, pl, el, e2⟩ => ?_)
  subst el e2
  refine thn (po_none.run pins s2 σ H2 (fun o H3 => o = none ∧ H3 = H2) I2 ⟨rfl, rfl⟩) fun vu s3 ⟨u, H3, I3, pu, eu, e3⟩ => ?_
  subst eu e3
  refine thn (hst.run pins s3 σ H3 (fun o H4 => o = some (-1) ∧ H4 = H3) I3 ⟨1, rfl, -1, rfl, rfl, rfl⟩) fun vs s4 ⟨o, H4, I4, ps, eo, e4⟩ => ?_
  subst eo e4
  have I5 : Inv X pins σ H4 { s4 with heap := s4.heap.push { cls := .type "slice", data := .fields #[vl, vu, vs] } } := I4.kept (t' := s4.toks) fun b ob q => Heap.get?_push_of_some _ q
  show wpAny (model X.prog X.w) X.A (subscriptTail e (.Slice none none (some (.UnaryOp .USub (.Constant (.int 1) k p1) p2)) p3) (.ref a) (.ref s4.heap.objs.size)) (EP X pins σ Q) X.xe { s4 with heap := s4.heap.push { cls := .type "slice", data := .fields #[vl, vu, vs] } }
  rcases q with ⟨xs, hx, q⟩ | ⟨xs, hx, q⟩
  · obtain ⟨its, r, ht, hz⟩ := I5.list hx
    have hlen := r.length
    refine tail_any (ops := [.ref a, .ref s4.heap.objs.size]) ht.isList.typeIs (PySem.slot_list_getitem.lookup) ?_ (by with_unfolding_all rfl)
    refine wpAny_getItem_list_slice ht.isList (Heap.IsSliceOf.new _ vl vu vs) pl pu ps (by decide) ?_ (by rw [List.size_toArray]; omega)
    rw [PySem.W.krv_pick]
    refine ⟨.ref _, _, I5.laid (t' := s4.toks) (o := .lst xs.reverse) (fun b ob q => Heap.get?_push_of_some _ q) (Nat.le_refl _) ?_, rfl, q _ (I5.hok.fresh (Nat.le_refl _))⟩
    exact ⟨by rw [List.length_reverse]; exact hz, _, 0, r.reverse, Heap.get?_push_size _ rfl⟩
  · obtain ⟨its, r, ht, hz⟩ := I5.tuple hx
    have hlen := r.length
    cases pl
    cases pu
    cases ps with
    | int i tk =>
    refine tail_any (ops := [.ref a, .ref s4.heap.objs.size]) ht.typeIs (PyProof.Rows.slot_tuple_getitem.lookup) ?_ (by with_unfolding_all rfl)
    refine getItem_tuple_rev (u := tk) ht (Heap.IsSliceOf.new _ _ _ _) ?_ (by rw [List.size_toArray]; omega)
    refine ⟨.ref _, _, I5.laid (t' := s4.toks) (o := .tup xs.reverse) (fun b ob q => Heap.get?_push_of_some _ q) (Nat.le_refl _) ?_, rfl, q _ (I5.hok.fresh (Nat.le_refl _))⟩
    exact ⟨by rw [List.length_reverse]; exact hz, _, r.reverse, IsTup.new _ _⟩
end
section
variable {P : Prg} {G : Nat → List Vl → M Vl} {w : Wd} {c : Tc} {X : Cx} {W : WT}
theorem isRev_ok {s : Expr} (h : isRev s = true) : ∃ k p1 p2 p3, s = .Slice none none (some (.UnaryOp .USub (.Constant (.int 1) k p1) p2)) p3 := by
  unfold isRev at h
  split at h
  · have := of_decide_eq_true h
    subst this
    exact ⟨_, _, _, _, rfl⟩
  · cases h
theorem g_rev {a s : Expr} {x : Ex} {pos : Pos} (hK : X.K = w.K) (ha : PE X a (tE w W (evalE P G x))) (h : isRev s = true) : PE X (.Subscript a s pos) (tE w W (evalE P G (.rev x))) := by
  obtain ⟨k, p1, p2, p3, rfl⟩ := isRev_ok h
  refine PE.imp (pe_revT ha) fun σ H Q ⟨ι, env, s, R, er, h⟩ => ?_
  have h : ResG w ι H (fun c d H' => W c d σ H') (CQ w Q) ((M.bind (evalE P G x env) revM).run s) := by rw [evalE] at h; exact h
  refine ⟨ι, env, s, R, er, (ResG.bind h).mono fun v s1 ι1 H1 R1 p1 q1 u r1 => ?_⟩
  cases v with
  | dat d =>
    cases d with
    | tup ds =>
      obtain ⟨a, xs, e, q, pr⟩ := r1.tup_inv
      refine ⟨a, e, .inr ⟨xs, by rw [hK]; exact q, fun p hp => ?_⟩⟩
      exact res_tup q1 R1 hp (pr_rev pr)
    | _ => exact absurd q1 id
  | ref n =>
    have q2 : ResG w ι1 H1 (fun c d H' => W c d σ H') (CQ w Q) ((M.bind (get n) fun c => (match c with
      | .lst xs => alloc (.lst xs.reverse)
      | _ => M.bad)).run s1) := q1
    obtain ⟨cc, hc, q2⟩ := res_get q2
    obtain ⟨a, e, n1, k⟩ := ref_cell R1 r1 hc
    cases cc with
    | lst xs =>
      obtain ⟨us, k1, k2⟩ := k
      refine ⟨a, e, .inl ⟨us, by rw [hK]; exact SqL.of k1, fun p hp => ?_⟩⟩
      exact res_lst q2 R1 hp (pr_rev k2)
    | _ => exact absurd q2 id
end
end PI
/-! PI10: all expressions. -/
namespace PI
open PySem PySem.Spec L2 PyProof.Rows
section
variable {P : Prg} {G : Nat → List Vl → M Vl} {w : Wd} {c : Tc} {X : Cx} {W : WT}
/-! ### names -/
theorem findIdx_get {l : List Str} {x : Str} {i : Nat} (h : (l.findIdx? fun y => decide (y = x)) = some i) : l[i]? = some x := by
  rw [List.findIdx?_eq_some_iff_getElem] at h
  obtain ⟨hi, h1, _⟩ := h
  rw [List.getElem?_eq_getElem hi]
  rw [of_decide_eq_true h1]
theorem slot_ok {x : Str} {i : Nat} (I : XOk P G w c X) (h : slotOf c x = some i) : X.N[i]? = some x ∧ Vis X.env.scope x := by
  unfold slotOf at h
  rw [I.N, I.sc]
  split at h
  · exact ⟨findIdx_get h, .inl (by assumption)⟩
  · exact ⟨findIdx_get h, .inr (.inl (by assumption))⟩
  · exact ⟨findIdx_get h, .inr (.inr (by assumption))⟩
  · cases h
theorem loc_ok {x : Str} {i : Nat} (I : XOk P G w c X) (h : locOf c x = some i) : X.N[i]? = some x ∧ Loc X.env.scope x ∧ (X.fn x = true ∨ X.env.scope.names.lookup x = some .local) := by
  unfold locOf at h
  rw [I.N, I.sc]
  split at h
  · exact ⟨findIdx_get h, .inl (by assumption), .inr (by assumption)⟩
  · rename_i e
    split at h
    · exact ⟨findIdx_get h, .inr e, .inl (I.fnw x (by assumption))⟩
    · cases h
  · cases h
theorem locL_ok {x : Str} {i : Nat} (I : XOk P G w c X) (h : locL c x = some i) : X.N[i]? = some x ∧ X.env.scope.names.lookup x = some .local := by
  unfold locL at h
  rw [I.N, I.sc]
  split at h
  · exact ⟨findIdx_get h, by assumption⟩
  · cases h
theorem gl_ok {x : Str} (I : XOk P G w c X) (h : isGl c x = true) : Gl X x ∧ x ≠ "__name__" ∧ (x == ("__debug__" : Str)) = false := by
  unfold isGl at h
  rw [Bool.and_eq_true_iff, Bool.and_eq_true_iff] at h
  obtain ⟨⟨h1, h2⟩, h3⟩ := h
  refine ⟨?_, fun e => by subst e; simp at h2, ?_⟩
  · show X.env.scope.names.lookup x = _
    rw [I.sc]; exact of_decide_eq_true h1
  · have : x ≠ "__debug__" := fun e => by subst e; simp at h3
    exact beq_false_of_ne this
/-- what is to be shown of an expression -/
def Snd (P : Prg) (G : Nat → List Vl → M Vl) (w : Wd) (e : Expr) : Prop := ∀ (c : Tc) (X : Cx) (W : WT) (x : Ex), XOk P G w c X → Takes X W → tr c e = some x → PE X e (tE w W (evalE P G x)) ∧ PT X e (tT w W (tst P G x))
def Snds (P : Prg) (G : Nat → List Vl → M Vl) (w : Wd) (es : List Expr) : Prop := ∀ e ∈ es, Snd P G w e
def SndO (P : Prg) (G : Nat → List Vl → M Vl) (w : Wd) (e : Option Expr) : Prop := ∀ x, e = some x → Snd P G w x
def SndP (P : Prg) (G : Nat → List Vl → M Vl) (w : Wd) : Expr → Prop
  | .Slice lo hi _ _ => SndO P G w lo ∧ SndO P G w hi
  | .Attribute o _ _ => Snd P G w o
  | .Call _ es _ _ => Snds P G w es
  | _ => True
def SndG (P : Prg) (G : Nat → List Vl → M Vl) (w : Wd) (g : Comprehension) : Prop := match g with
  | ⟨_, it, ifs, _⟩ => Snd P G w it ∧ SndP P G w it ∧ Snds P G w ifs
theorem snd_of (he : ∀ {x : Ex}, XOk P G w c X → tr c e = some x → ∀ env whole, isTrue e env whole = (do let v ← whole; standAt e.pos; holding [v] (truthy v))) : True := trivial
/-- any expression whose test is its value's truth -/
theorem snd_plain {e : Expr} (he : ∀ env whole, isTrue e env whole = (do let v ← whole; standAt e.pos; holding [v] (truthy v)))
    (h : ∀ (c : Tc) (X : Cx) (W : WT) (x : Ex), XOk P G w c X → Takes X W → tr c e = some x → PE X e (tE w W (evalE P G x))) : Snd P G w e :=
  fun c X W x I tk e => ⟨h c X W x I tk e, g_truth I.K (h c X W x I tk e) (he _)⟩
theorem snd_none {e : Expr} (h : ∀ c, tr c e = none) : Snd P G w e := fun c X W x I tk e => by rw [h c] at e; cases e
theorem sa : ∀ {es : List Expr} {xs : List Ex}, Snds P G w es → XOk P G w c X → Takes X W → trs c es = some xs → PA X es (tA w W (evalEs P G xs))
  | [], xs, h, I, tk, e => by unfold trs at e; cases e; exact ga_nil
  | a :: es, xs, h, I, tk, e => by
    obtain ⟨y, ys, h1, h2, rfl⟩ := trs_cons e
    exact ga_cons (h a (List.mem_cons_self ..) c X W y I tk h1).1 (sa (fun z hz => h z (List.mem_cons_of_mem _ hz)) I tk h2) (tr_star h1 es X.env)
theorem snd_name {x : Str} {pos : Pos} : Snd P G w (.Name x pos) := snd_plain (fun _ _ => rfl) fun c X W y I tk h => by
  have h : trName c x = some y := h
  unfold trName at h
  cases e : slotOf c x with
  | some i =>
    rw [e] at h
    simp only [] at h
    obtain ⟨h1, h2⟩ := slot_ok I e
    by_cases hx : x = "__debug__" ∨ x = "__classdict__"
    · rw [if_pos hx] at h; cases h
    · rw [if_neg hx] at h
      cases h
      exact g_var h1 h2 (beq_false_of_ne fun e => hx (.inl e)) (beq_false_of_ne fun e => hx (.inr e))
  | none =>
    rw [e] at h
    simp only [] at h
    cases hg : isGl c x with
    | false => rw [hg] at h; cases h
    | true =>
      rw [hg, if_pos rfl] at h
      obtain ⟨g1, g2, g3⟩ := gl_ok I hg
      cases hl : c.glb.lookup x with
      | none => rw [hl] at h; cases h
      | some d =>
        rw [hl] at h
        cases h
        exact g_glb g1 (I.glb x d hl) I.K g3
theorem snd_const {k : Const} {j : Nat} {pos : Pos} : Snd P G w (.Constant k j pos) := snd_plain (fun _ _ => rfl) fun c X W y I tk h => by
  have h : (litOf k).map Ex.lit = some y := h
  cases e : litOf k with
  | none => rw [e] at h; cases h
  | some d => rw [e] at h; cases h; exact g_lit e
theorem snd_tuple {es : List Expr} {k : Nat} {pos : Pos} (hs : Snds P G w es) : Snd P G w (.Tuple es k pos) := snd_plain (fun _ _ => rfl) fun c X W y I tk h => by
  unfold tr at h
  cases e : trs c es with
  | none => rw [e] at h; cases h
  | some xs => rw [e] at h; cases h; exact g_tup (sa hs I tk e)
theorem snd_list {es : List Expr} {pos : Pos} (hs : Snds P G w es) : Snd P G w (.List es pos) := snd_plain (fun _ _ => rfl) fun c X W y I tk h => by
  unfold tr at h
  cases e : trs c es with
  | none => rw [e] at h; cases h
  | some xs => rw [e] at h; cases h; exact g_lst (sa hs I tk e)
theorem snd_bin {a b : Expr} {op : Operator} {pos : Pos} (ha : Snd P G w a) (hb : Snd P G w b) : Snd P G w (.BinOp a op b pos) := snd_plain (fun _ _ => rfl) fun c X W y I tk h => by
  unfold tr at h
  cases e1 : bopOf op with
  | none => rw [e1] at h; cases h
  | some o =>
    cases e2 : tr c a with
    | none => rw [e1, e2] at h; cases h
    | some x =>
      cases e3 : tr c b with
      | none => rw [e1, e2, e3] at h; cases h
      | some z =>
        rw [e1, e2, e3] at h
        cases h
        have := pe_two (pos := pos) (fun W' => opr_bin (W := W') I.K e1) (ha c X W x I tk e2).1 (hb c X W z I tk e3).1
        exact this
theorem snd_un {a : Expr} {op : UnaryOp} {pos : Pos} (ha : Snd P G w a) : Snd P G w (.UnaryOp op a pos) := fun c X W y I tk h => by
  unfold tr at h
  cases e2 : tr c a with
  | none => rw [e2] at h; cases h
  | some x =>
    rw [e2] at h
    cases op with
    | Not =>
      cases h
      exact ⟨g_not I.K (ha c X W x I tk e2).1, g_tnot (ha c X W x I tk e2).2⟩
    | USub =>
      cases h
      have := g_neg (pos := pos) (ha c X W x I tk e2).1
      exact ⟨this, g_truth I.K this fun _ => rfl⟩
    | _ => cases h
theorem bool_e {op : BoolOp} {pos : Pos} : ∀ {es : List Expr} {xs : List Ex} {x : Ex}, Snds P G w es → XOk P G w c X → Takes X W → trs c es = some xs → mkB op xs = some x → PE X (.BoolOp op es pos) (tE w W (evalE P G x)) ∧ PW X (.BoolOp op es pos) (tT w W (tst P G x))
  | [], xs, x, h, I, tk, e, m => by unfold trs at e; cases e; cases m
  | [a], xs, x, h, I, tk, e, m => by
    obtain ⟨y, ys, h1, h2, rfl⟩ := trs_cons e
    unfold trs at h2
    cases h2
    cases m
    have := h a (List.mem_cons_self ..) c X W x I tk h1
    exact ⟨pe_one this.1, g_wone this.2⟩
  | a :: b :: es, xs, x, h, I, tk, e, m => by
    obtain ⟨y, ys, h1, h2, rfl⟩ := trs_cons e
    obtain ⟨z, zs, h3, h4, rfl⟩ := trs_cons h2
    unfold mkB at m
    cases e2 : mkB op (z :: zs) with
    | none => rw [e2] at m; cases m
    | some v =>
      rw [e2] at m
      have h5 := h a (List.mem_cons_self ..) c X W y I tk h1
      have h6 := bool_e (op := op) (pos := pos) (fun z hz => h z (List.mem_cons_of_mem _ hz)) I tk h2 e2
      cases op with
      | And => cases m; exact ⟨g_and I.K h5.1 h6.1, g_wand h5.2 h6.2⟩
      | Or => cases m; exact ⟨g_or I.K h5.1 h6.1, g_wor h5.2 h6.2⟩
theorem pt_ofw {e : Expr} {t : TT} (h : PW X e t) : PT X e t := ⟨fun pins s σ H Q I q => h.run (eval e X.env) pins s σ H Q I q⟩
theorem snd_bool {es : List Expr} {op : BoolOp} {pos : Pos} (hs : Snds P G w es) : Snd P G w (.BoolOp op es pos) := fun c X W y I tk h => by
  unfold tr at h
  cases e : trs c es with
  | none => rw [e] at h; cases h
  | some xs =>
    rw [e] at h
    have := bool_e (pos := pos) hs I tk e h
    exact ⟨this.1, pt_ofw this.2⟩
theorem snd_ite {t a b : Expr} {pos : Pos} (ht : Snd P G w t) (ha : Snd P G w a) (hb : Snd P G w b) : Snd P G w (.IfExp t a b pos) := fun c X W y I tk h => by
  unfold tr at h
  cases e1 : tr c t with
  | none => rw [e1] at h; cases h
  | some x =>
    cases e2 : tr c a with
    | none => rw [e1, e2] at h; cases h
    | some u =>
      cases e3 : tr c b with
      | none => rw [e1, e2, e3] at h; cases h
      | some z =>
        rw [e1, e2, e3] at h
        cases h
        have h1 := ht c X W x I tk e1
        have h2 := ha c X W u I tk e2
        have h3 := hb c X W z I tk e3
        exact ⟨g_ite h1.2 h2.1 h3.1, g_tite h1.2 h2.2 h3.2⟩
theorem snd_cmp {a : Expr} {ops : List CmpOp} {bs : List Expr} {pos : Pos} (ha : Snd P G w a) (hs : Snds P G w bs) : Snd P G w (.Compare a ops bs pos) := fun c X W y I tk h => by
  unfold tr at h
  cases e1 : tr c a with
  | none => rw [e1] at h; cases h
  | some x =>
    cases e2 : trs c bs with
    | none => rw [e1, e2] at h; cases h
    | some ys =>
      rw [e1, e2] at h
      have h1 := ha c X W x I tk e1
      match ops, bs, e2, hs, h with
      | [op], [b], e2, hs, h =>
        obtain ⟨u, us, h3, h4, rfl⟩ := trs_cons e2
        unfold trs at h4
        cases h4
        cases h
        have h5 := hs b (List.mem_cons_self ..) c X W u I tk h3
        refine ⟨?_, g_tcmp (fun W' => cop_any I.K I.un) h1.1 h5.1 (tr_marks h3 op)⟩
        rw [cmp_bl]
        exact pe_twoC (fun W' => cop_any I.K I.un) h1.1 h5.1 (tr_marks h3 op)
      | [op, op'], [b, d], e2, hs, h =>
        obtain ⟨u, us, h3, h4, rfl⟩ := trs_cons e2
        obtain ⟨v, vs, h6, h7, rfl⟩ := trs_cons h4
        unfold trs at h7
        cases h7
        cases h
        have h5 := hs b (List.mem_cons_self ..) c X W u I tk h3
        have h8 := hs d (List.mem_cons_of_mem _ (List.mem_cons_self ..)) c X W v I tk h6
        have hm : lastMarks [op, op'] [b, d] = false := tr_marks h6 op'
        exact ⟨g_chn (fun W' => cop_any I.K I.un) (fun W' => cop_any I.K I.un) h1.1 h5.1 h8.1 hm, g_tchn (fun W' => cop_any I.K I.un) (fun W' => cop_any I.K I.un) h1.1 h5.1 h8.1 hm⟩
      | [], _, e2, hs, h => cases h
      | [_], [], e2, hs, h => unfold trs at e2; cases e2; cases h
      | [_], _ :: _ :: _, e2, hs, h =>
        obtain ⟨u, us, h3, h4, rfl⟩ := trs_cons e2
        obtain ⟨v, vs, h6, h7, rfl⟩ := trs_cons h4
        cases h
      | [_, _], [], e2, hs, h => unfold trs at e2; cases e2; cases h
      | [_, _], [_], e2, hs, h =>
        obtain ⟨u, us, h3, h4, rfl⟩ := trs_cons e2
        unfold trs at h4
        cases h4
        cases h
      | [_, _], _ :: _ :: _ :: _, e2, hs, h =>
        obtain ⟨u, us, h3, h4, rfl⟩ := trs_cons e2
        obtain ⟨v, vs, h6, h7, rfl⟩ := trs_cons h4
        obtain ⟨v2, vs2, h8, h9, rfl⟩ := trs_cons h7
        cases h
      | _ :: _ :: _ :: _, _, e2, hs, h =>
        unfold mkCmp at h
        cases h
theorem so {o : Option Expr} {l : List Ex} (hs : SndO P G w o) (I : XOk P G w c X) (tk : Takes X W) (e : trO c o = some l) : PO X o (tO w W (bnd P G l)) := by
  cases o with
  | none => unfold trO at e; cases e; exact go_none
  | some a =>
    unfold trO at e
    cases e1 : tr c a with
    | none => rw [e1] at e; cases e
    | some x => rw [e1] at e; cases e; exact go_some (hs a rfl c X W x I tk e1).1
theorem rev_none {lo hi : Option Expr} {p : Pos} : isRev (.Slice lo hi none p) = false := by cases lo <;> cases hi <;> rfl
theorem tr_slice {lo hi st : Option Expr} {p : Pos} : tr c (.Slice lo hi st p) = none := rfl
theorem snd_sub {a s : Expr} {pos : Pos} (ha : Snd P G w a) (hs : Snd P G w s) (hp : SndP P G w s) : Snd P G w (.Subscript a s pos) := snd_plain (fun _ _ => rfl) fun c X W y I tk h => by
  unfold tr at h
  cases e1 : tr c a with
  | none => rw [e1] at h; cases h
  | some x =>
    rw [e1] at h
    have h1 := ha c X W x I tk e1
    cases e2 : tr c s with
    | some u =>
      rw [e2] at h
      cases h
      exact pe_twoI (fun W' => ixr I.K) h1.1 (hs c X W u I tk e2).1 (tr_plainIx e2)
    | none =>
      rw [e2] at h
      cases s with
      | Slice lo hi st p =>
        cases st with
        | none =>
          unfold trSl at h
          cases e3 : trO c lo with
          | none => rw [e3, rev_none] at h; cases h
          | some l =>
            cases e4 : trO c hi with
            | none => rw [e3, e4, rev_none] at h; cases h
            | some u =>
              rw [e3, e4] at h
              cases h
              exact g_sl I.K h1.1 (so hp.1 I tk e3) (so hp.2 I tk e4)
        | some st =>
          have h : (if isRev (.Slice lo hi (some st) p) = true then some (Ex.rev x) else none) = some y := h
          cases er : isRev (.Slice lo hi (some st) p) with
          | false => rw [er] at h; cases h
          | true =>
            rw [er] at h
            cases h
            exact g_rev I.K h1.1 er
      | _ => cases h
/-! ### calls -/
theorem bi_ty {x : Str} {b : Bi} (h : biTab.lookup x = some b) (hK : X.K = w.K) (hc : X.calm = true) : ∃ f, ((∀ W', CallR X (.builtin f) (rCa w W' (biM b))) ∧ bootBuiltins x = some (.builtin f) ∨ (∀ W', CallR X (.type f) (rCa w W' (biM b))) ∧ bootBuiltins x = some (.type f)) ∧ x ∈ bltNames := by
  have key : ∀ {l : List (Str × Bi)}, l.lookup x = some b → (x, b) ∈ l := by
    intro l
    induction l with
    | nil => intro h; cases h
    | cons p l ih =>
      intro h
      obtain ⟨y, z⟩ := p
      by_cases e : x = y
      · subst e
        rw [List.lookup_cons_self] at h
        cases h
        exact List.mem_cons_self ..
      · rw [List.lookup_cons, beq_false_of_ne e] at h
        exact List.mem_cons_of_mem _ (ih h)
  have hm := key h
  clear key h
  unfold biTab at hm
  simp only [List.mem_cons, List.not_mem_nil, or_false, Prod.mk.injEq] at hm
  rcases hm with ⟨rfl, rfl⟩ | ⟨rfl, rfl⟩ | ⟨rfl, rfl⟩ | ⟨rfl, rfl⟩ | ⟨rfl, rfl⟩ | ⟨rfl, rfl⟩ | ⟨rfl, rfl⟩ | ⟨rfl, rfl⟩ | ⟨rfl, rfl⟩ | ⟨rfl, rfl⟩
  · exact ⟨"len", .inl ⟨fun W' => ca_len hK, rfl⟩, by simp [bltNames]⟩
  · exact ⟨"sum", .inl ⟨fun W' => ca_sum hK hc, rfl⟩, by simp [bltNames]⟩
  · exact ⟨"abs", .inl ⟨fun W' => ca_abs, rfl⟩, by simp [bltNames]⟩
  · exact ⟨"int", .inr ⟨fun W' => ca_int, rfl⟩, by simp [bltNames]⟩
  · exact ⟨"max", .inl ⟨fun W' => ca_max hc, rfl⟩, by simp [bltNames]⟩
  · exact ⟨"min", .inl ⟨fun W' => ca_min hc, rfl⟩, by simp [bltNames]⟩
  · exact ⟨"tuple", .inr ⟨fun W' => ca_tup hK, rfl⟩, by simp [bltNames]⟩
  · exact ⟨"list", .inr ⟨fun W' => ca_lst hK, rfl⟩, by simp [bltNames]⟩
  · exact ⟨"all", .inl ⟨fun W' => ca_all hK hc, rfl⟩, by simp [bltNames]⟩
  · exact ⟨"any", .inl ⟨fun W' => ca_any hK hc, rfl⟩, by simp [bltNames]⟩
theorem callN_ok {f : Str} {es : List Expr} {xs : List Ex} {x : Ex} {p pos : Pos} (hs : Snds P G w es) (I : XOk P G w c X) (tk : Takes X W) (e : trs c es = some xs) (m : mkCallN c f xs = some x) : PE X (.Call (.Name f p) es [] pos) (tE w W (evalE P G x)) := by
  unfold mkCallN at m
  by_cases hsu : f = "super"
  · rw [if_pos hsu] at m; cases m
  · rw [if_neg hsu] at m
    cases e1 : slotOf c f with
    | some i => rw [e1] at m; cases m
    | none =>
      cases e2 : isGl c f with
      | false => rw [e1, e2] at m; cases m
      | true =>
        rw [e1, e2] at m
        simp only [] at m
        obtain ⟨g1, g2, g3⟩ := gl_ok I e2
        cases e3 : idxOf c.fns f with
        | some i =>
          rw [e3] at m
          cases m
          obtain ⟨fa, k, fd, ps, q⟩ := I.fn i f e3
          cases es with
          | nil => unfold trs at e; cases e; exact g_call0 q tk g1 g3
          | cons a es =>
            obtain ⟨y, ys, h1, h2, e4⟩ := trs_cons e
            exact g_call q tk g1 g3 (sa hs I tk e) (tr_star h1 es X.env) (trs_star h2 _ _)
        | none =>
          rw [e3] at m
          simp only [] at m
          by_cases hx : xs = []
          · rw [if_pos hx] at m; cases m
          · rw [if_neg hx] at m
            cases e4 : biTab.lookup f with
            | none => rw [e4] at m; cases m
            | some b =>
              rw [e4] at m
              cases m
              obtain ⟨id, h, hb⟩ := bi_ty e4 I.K I.calm
              cases es with
              | nil => unfold trs at e; cases e; exact absurd rfl hx
              | cons a es =>
                obtain ⟨y, ys, h1, h2, e5⟩ := trs_cons e
                rcases h with ⟨h5, h6⟩ | ⟨h5, h6⟩
                · exact ga_call h5 g1 (I.blt f hb) h6 (sa hs I tk e) g2 g3 (tr_star h1 es X.env) (trs_star h2 _ _)
                · exact ga_callT h5 g1 (I.blt f hb) h6 (sa hs I tk e) g2 g3 (tr_star h1 es X.env) (trs_star h2 _ _)
theorem callM_ok {m : Str} {o : Expr} {es : List Expr} {xs : List Ex} {y x : Ex} {apos pos : Pos} (ho : Snd P G w o) (hs : Snds P G w es) (I : XOk P G w c X) (tk : Takes X W) (eo : tr c o = some y) (e : trs c es = some xs) (hm : mkCallM c m (apos.endLine == pos.line) y xs = some x) :
    PE X (.Call (.Attribute o m apos) es [] pos) (tE w W (evalE P G x)) := by
  unfold mkCallM at hm
  by_cases h1 : m ∈ c.meths
  · rw [if_pos h1] at hm; cases hm
  · rw [if_neg h1] at hm
    cases hl : (apos.endLine == pos.line) with
    | false => rw [hl] at hm; cases hm
    | true =>
      rw [hl] at hm
      simp only [] at hm
      by_cases h2 : m = "append" ∧ xs.length = 1
      · rw [if_pos h2] at hm
        cases hm
        obtain ⟨rfl, h3⟩ := h2
        match es, xs, e, h3, hs with
        | [], xs, e, h3, hs => unfold trs at e; cases e; cases h3
        | [a], xs, e, h3, hs =>
          obtain ⟨z, zs, h4, h5, rfl⟩ := trs_cons e
          unfold trs at h5
          cases h5
          exact g_app I.K (ho c X W y I tk eo).1 (hs a (List.mem_cons_self ..) c X W z I tk h4).1 (tr_attr eo) hl (tr_star h4 [] X.env)
        | a :: b :: es, xs, e, h3, hs =>
          obtain ⟨z, zs, h4, h5, rfl⟩ := trs_cons e
          obtain ⟨z2, zs2, h6, h7, rfl⟩ := trs_cons h5
          simp at h3
      · rw [if_neg h2] at hm; cases hm
theorem isi_ok {f : Str} {es : List Expr} {x : Ex} {p pos : Pos} (hs : Snds P G w es) (I : XOk P G w c X) (tk : Takes X W) (m : mkIsi c f es (trHd c es) = some x) : PE X (.Call (.Name f p) es [] pos) (tE w W (evalE P G x)) := by
  unfold mkIsi at m
  split at m
  · rename_i hf
    subst hf
    split at m
    · rename_i a T pT y e1 e2 e3
      split at m
      · rename_i hT
        cases m
        obtain ⟨h1, h2, h3⟩ := hT
        unfold trHd at e3
        obtain ⟨m, n1, n2, n3, n4, n5⟩ := tab_name h1
        obtain ⟨g1, g2, g3⟩ := gl_ok I e2
        obtain ⟨g4, g5, g6⟩ := gl_ok I h3
        exact g_isi I.K (hs a (List.mem_cons_self ..) c X W y I tk e3).1 h1 g1 (I.blt _ (by simp [bltNames])) g4 (I.blt _ n3) (tr_star e3 _ _)
      · cases m
    · cases m
  · cases m
theorem snd_call {f : Expr} {es kws} {pos : Pos} (hs : Snds P G w es) (hp : SndP P G w f) : Snd P G w (.Call f es kws pos) := snd_plain (fun _ _ => rfl) fun c X W y I tk h => by
  unfold tr at h
  cases kws with
  | cons a b => cases h
  | nil =>
    cases f with
    | Name x p =>
      cases e : trs c es with
      | none =>
        rw [e] at h
        exact isi_ok hs I tk h
      | some xs =>
        rw [e] at h
        exact callN_ok hs I tk e h
    | Attribute o m apos =>
      cases e : trs c es with
      | none => rw [e] at h; cases h
      | some xs =>
        rw [e] at h
        cases e2 : trRecv c (.Attribute o m apos) with
        | none => rw [e2] at h; cases h
        | some z =>
          rw [e2] at h
          unfold trRecv at e2
          exact callM_ok hp hs I tk e2 e h
    | _ => cases h
/-! ### what is walked -/
theorem it_ok {tg e : Expr} {k : ItK} {args : List Ex} (he : Snd P G w e) (hp : SndP P G w e) (I : XOk P G w c X) (tk : Takes X W) (h : itK c e (tr c e) (trArgs c e) = some (k, args)) : PI X tg e (tI w W (itv P G k args)) := by
  have val : (tr c e).map (fun x => (ItK.val, [x])) = some (k, args) → PI X tg e (tI w W (itv P G k args)) := fun h => by
    cases e1 : tr c e with
    | none => rw [e1] at h; cases h
    | some x =>
      rw [e1] at h
      cases h
      exact gi_val I.K (he c X W x I tk e1).1
  unfold itK at h
  split at h
  · rename_i f p es pos
    by_cases hf : f = "range"
    · rw [if_pos hf] at h
      subst hf
      cases e1 : slotOf c "range" with
      | some i => rw [e1] at h; cases h
      | none =>
        cases e2 : isGl c "range" with
        | false => rw [e1, e2] at h; cases h
        | true =>
          unfold trArgs at h
          cases e3 : trs c es with
          | none => rw [e1, e2, e3] at h; cases h
          | some xs =>
            rw [e1, e2, e3] at h
            simp only [] at h
            obtain ⟨g1, g2, g3⟩ := gl_ok I e2
            have hb := I.blt "range" (by simp [bltNames])
            by_cases hl : es.length = 1 ∨ es.length = 2
            · rw [if_pos hl] at h
              cases h
              have hp : Snds P G w es := hp
              match es, hl, args, e3, hp with
              | [a], _, xs, e3, hp =>
                obtain ⟨y, ys, h1, h2, rfl⟩ := trs_cons e3
                unfold trs at h2
                cases h2
                exact gi_rng1 g1 hb (sa hp I tk e3) rfl (tr_star h1 [] X.env)
              | [a, b], _, xs, e3, hp =>
                obtain ⟨y, ys, h1, h2, rfl⟩ := trs_cons e3
                obtain ⟨z, zs, h4, h5, rfl⟩ := trs_cons h2
                unfold trs at h5
                cases h5
                exact gi_rng2 g1 hb (sa hp I tk e3) rfl (by rw [tr_star h1, tr_star h4]; rfl) (tr_star h4 [] X.env)
              | [], hl, _, _, _ => simp at hl
              | _ :: _ :: _ :: _, hl, _, _, _ => simp at hl
            · rw [if_neg hl] at h; cases h
    · rw [if_neg hf] at h
      exact val h
  · exact val h
/-! ### targets -/
theorem tg_plain {e : Expr} {t : Tg} (h : trTg c e = some t) (es : List Expr) (env : PySem.Env) : assignEach (e :: es) env = (false, assign e env) :: assignEach es env := by
  cases e <;> first | rfl | (simp [trTg] at h; done)
theorem trTgs_cons {e : Expr} {es : List Expr} {ts : List Tg} (h : trTgs c (e :: es) = some ts) : ∃ t r, trTg c e = some t ∧ trTgs c es = some r ∧ ts = t :: r := by
  unfold trTgs at h
  cases h1 : trTg c e with
  | none => rw [h1] at h; cases h
  | some x =>
    cases h2 : trTgs c es with
    | none => rw [h1, h2] at h; cases h
    | some ys => rw [h1, h2] at h; cases h; exact ⟨x, ys, rfl, rfl, rfl⟩
theorem trTgs_len : ∀ {es : List Expr} {ts : List Tg}, trTgs c es = some ts → ∀ env, (assignEach es env).length = ts.length ∧ (assignEach es env).findIdx? (·.1) = none
  | [], ts, h, env => by unfold trTgs at h; cases h; exact ⟨rfl, rfl⟩
  | e :: es, ts, h, env => by
    obtain ⟨t, r, h1, h2, rfl⟩ := trTgs_cons h
    obtain ⟨h3, h4⟩ := trTgs_len h2 env
    rw [tg_plain h1]
    refine ⟨by simp [h3], ?_⟩
    rw [List.findIdx?_cons]
    simp [h4]
mutual
theorem tg_ok : ∀ (e : Expr) {t : Tg}, XOk P G w c X → trTg c e = some t → PG X e (gT w t) ∧ PG X e (gC w.K t)
  | .Name x pos, t, I, h => by
    unfold trTg at h
    cases e : locOf c x with
    | none => rw [e] at h; cases h
    | some i =>
      rw [e] at h
      cases h
      obtain ⟨h1, h2, h3⟩ := loc_ok I e
      have hN : X.N.Nodup := by rw [I.N]; exact I.nd
      refine ⟨gt_name hN h1 h2 h3, ?_⟩
      rw [gC]
      exact pg_name hN h1 h2 h3
  | .Tuple es k pos, t, I, h => by
    unfold trTg at h
    cases e : trTgs c es with
    | none => rw [e] at h; cases h
    | some ts =>
      rw [e] at h
      cases h
      obtain ⟨h1, h2⟩ := tgs_ok es I e
      obtain ⟨h3, h4⟩ := trTgs_len e X.env
      refine ⟨gt_tup I.K I.calm h1 h3 h4, ?_⟩
      rw [gC]
      have := pg_tup (k := k) (pos := pos) I.calm h2 h3 h4
      rw [I.K] at this
      exact this
  | .BoolOp .., t, I, h => nomatch h
  | .NamedExpr .., t, I, h => nomatch h
  | .BinOp .., t, I, h => nomatch h
  | .UnaryOp .., t, I, h => nomatch h
  | .Lambda .., t, I, h => nomatch h
  | .IfExp .., t, I, h => nomatch h
  | .Dict .., t, I, h => nomatch h
  | .Set .., t, I, h => nomatch h
  | .ListComp .., t, I, h => nomatch h
  | .SetComp .., t, I, h => nomatch h
  | .DictComp .., t, I, h => nomatch h
  | .GeneratorExp .., t, I, h => nomatch h
  | .Await .., t, I, h => nomatch h
  | .Yield .., t, I, h => nomatch h
  | .YieldFrom .., t, I, h => nomatch h
  | .Compare .., t, I, h => nomatch h
  | .Call .., t, I, h => nomatch h
  | .FormattedValue .., t, I, h => nomatch h
  | .JoinedStr .., t, I, h => nomatch h
  | .Constant .., t, I, h => nomatch h
  | .Attribute .., t, I, h => nomatch h
  | .Subscript .., t, I, h => nomatch h
  | .Starred .., t, I, h => nomatch h
  | .List .., t, I, h => nomatch h
  | .Slice .., t, I, h => nomatch h
theorem tgs_ok : ∀ (es : List Expr) {ts : List Tg}, XOk P G w c X → trTgs c es = some ts → PGs X es (gTs w ts) ∧ PGs X es (gCs w.K ts)
  | [], ts, I, h => by unfold trTgs at h; cases h; exact ⟨gts_nil, by rw [gCs]; exact pgs_nil⟩
  | e :: es, ts, I, h => by
    obtain ⟨t, r, h1, h2, rfl⟩ := trTgs_cons h
    have h3 := tg_ok e I h1
    have h4 := tgs_ok es I h2
    have hs : (assignEach (e :: es) X.env).map (·.2) = assign e X.env :: (assignEach es X.env).map (·.2) := by rw [tg_plain h1]; rfl
    refine ⟨gts_cons h3.1 h4.1 hs, ?_⟩
    rw [gCs]
    exact pgs_cons h3.2 h4.2 hs
end
/-! ### comprehensions -/
theorem ts_ok {ifs : List Expr} {xs : List Ex} (hs : Snds P G w ifs) (I : XOk P G w c X) (tk : Takes X WF) (e : trs c ifs = some xs) (hl : xs.length ≤ 1) : PTs X ifs (tIfs w P G xs) := by
  match ifs, xs, e, hl, hs with
  | [], xs, e, hl, hs => unfold trs at e; cases e; exact pts_nil
  | [a], xs, e, hl, hs =>
    obtain ⟨z, zs, h4, h5, rfl⟩ := trs_cons e
    unfold trs at h5
    cases h5
    exact pts_one (hs a (List.mem_cons_self ..) c X WF z I tk h4).2
  | a :: b :: es, xs, e, hl, hs =>
    obtain ⟨z, zs, h4, h5, rfl⟩ := trs_cons e
    obtain ⟨z2, zs2, h6, h7, rfl⟩ := trs_cons h5
    simp at hl
theorem it_fold {e : Expr} {as : Option (List Ex)} {r : ItK × List Ex} (h : itK c e (tr c e) as = some r) (env : PySem.Env) (v : Value) : foldedSetIterable e env v = pure v := by
  cases e <;> first | rfl | (simp [itK, tr] at h; done)
/-- a comprehension's parts, for pe_lc and ps_setLc alike -/
theorem lc_parts {elt : Expr} {gens : List Comprehension} {scope : Scope} {pos : Pos} {y : Ex} (he : Snd P G w elt) (hg : ∀ g ∈ gens, SndG P G w g) (I : XOk P G w c X) (tk : Takes X W) (h : tr c (.ListComp elt gens scope pos) = some y) :
    ∃ tg iter ifs own wi g tt te, gens = [⟨tg, iter, ifs, 0⟩] ∧ X.N.Nodup ∧ PI X tg iter wi ∧ BlkOk X.N X.env.scope scope own ∧
      (∀ (s : Shared) (H : Hp) (C : Addr) (cl : List (Str × Addr)) (fp : List Addr), PG (X.blk s H scope (compEnvC scope cl C X.env) fp) tg g) ∧ (∀ (s : Shared) (H : Hp) (C : Addr) (cl : List (Str × Addr)) (fp : List Addr), PTs (X.blk s H scope (compEnvC scope cl C X.env) fp) ifs tt) ∧
      (∀ (s : Shared) (H : Hp) (C : Addr) (cl : List (Str × Addr)) (fp : List Addr), PE (X.blk s H scope (compEnvC scope cl C X.env) fp) elt te) ∧ (∀ v, foldedSetIterable iter X.env v = pure v) ∧
      ∀ σ H Q, tE w W (evalE P G y) σ H Q → tLc wi g tt te (own.map (·.2)) σ H Q := by
  unfold tr at h
  cases e1 : ownOf c scope with
  | none => rw [e1] at h; cases h
  | some own =>
    cases e2 : trGens c { c with sc := relS scope c.sc, wr := scope } gens with
    | none => rw [e1, e2] at h; cases h
    | some g =>
      cases e3 : tr { c with sc := relS scope c.sc, wr := scope } elt with
      | none => rw [e1, e2, e3] at h; cases h
      | some x =>
        rw [e1, e2, e3] at h
        simp only [] at h
        by_cases hc : blkC c.N c.sc scope own = true ∧ g.2.2.length ≤ 1 ∧ tgIn (own.map (·.2)) g.2.1 = true
        · rw [if_pos hc] at h
          cases h
          obtain ⟨h1, h2, h3⟩ := hc
          obtain ⟨⟨k, args⟩, t, xs⟩ := g
          match gens, e2, hg with
          | [], e2, hg => unfold trGens at e2; cases e2
          | _ :: _ :: _, e2, hg => unfold trGens at e2; cases e2
          | [⟨tg, iter, ifs, a⟩], e2, hg =>
            unfold trGens trGen at e2
            by_cases ha : a = 0
            · rw [if_pos ha] at e2
              subst ha
              cases f1 : itK c iter (tr c iter) (trArgs c iter) with
              | none => rw [f1] at e2; cases e2
              | some ka =>
                cases f2 : trTg { c with sc := relS scope c.sc, wr := scope } tg with
                | none => rw [f1, f2] at e2; cases e2
                | some tt =>
                  cases f3 : trs { c with sc := relS scope c.sc, wr := scope } ifs with
                  | none => rw [f1, f2, f3] at e2; cases e2
                  | some ys =>
                    rw [f1, f2, f3] at e2
                    cases e2
                    obtain ⟨g1, g2, g3⟩ := hg _ (List.mem_cons_self ..)
                    have hN : X.N.Nodup := by rw [I.N]; exact I.nd
                    have hI := it_ok (tg := tg) g1 g2 I tk f1
                    have bok : BlkOk X.N X.env.scope scope own := by rw [I.N, I.sc]; exact blkOk_by h1
                    have hfold : ∀ v, foldedSetIterable iter X.env v = pure v := it_fold f1 X.env
                    have B : ∀ (s : Shared) (H : Hp) (C : Addr) (cl : List (Str × Addr)) (fp : List Addr), XOk P G w { c with sc := relS scope c.sc, wr := scope } (X.blk s H scope (compEnvC scope cl C X.env) fp) := fun s H C cl fp => I.blk s H scope C cl fp (by rw [← I.sc]; rfl)
                    have htg := fun (s : Shared) (H : Hp) (C : Addr) (cl : List (Str × Addr)) (fp : List Addr) => (tg_ok tg (B s H C cl fp) f2).2
                    have hts := fun (s : Shared) (H : Hp) (C : Addr) (cl : List (Str × Addr)) (fp : List Addr) => ts_ok g3 (B s H C cl fp) takes0 f3 h2
                    have hel := fun (s : Shared) (H : Hp) (C : Addr) (cl : List (Str × Addr)) (fp : List Addr) => (he _ _ WF x (B s H C cl fp) takes0 e3).1
                    exact ⟨tg, iter, ifs, own, _, _, _, _, rfl, hN, hI, bok, htg, hts, hel, hfold, fun σ H Q q => g_lc (pos := pos) I.K I.calm hN hI bok htg hts h2 hel hfold h3 q⟩
            · rw [if_neg ha] at e2; cases e2
        · rw [if_neg hc] at h; cases h
theorem snd_lc {elt : Expr} {gens : List Comprehension} {scope : Scope} {pos : Pos} (he : Snd P G w elt) (hg : ∀ g ∈ gens, SndG P G w g) : Snd P G w (.ListComp elt gens scope pos) := snd_plain (fun _ _ => rfl) fun c X W y I tk h => by
  obtain ⟨tg, iter, ifs, own, wi, g, tt, te, rfl, hN, hI, bok, htg, hts, hel, hfold, q⟩ := lc_parts he hg I tk h
  exact PE.imp (pe_lc I.calm hN hI bok htg hts hel hfold) q
/-! ### all -/
mutual
theorem snd : ∀ e : Expr, Snd P G w e ∧ SndP P G w e
  | .Name x pos => ⟨snd_name, trivial⟩
  | .Constant k j pos => ⟨snd_const, trivial⟩
  | .Tuple es k pos => ⟨snd_tuple (snds es), trivial⟩
  | .List es pos => ⟨snd_list (snds es), trivial⟩
  | .BinOp a op b pos => ⟨snd_bin (snd a).1 (snd b).1, trivial⟩
  | .UnaryOp op a pos => ⟨snd_un (snd a).1, trivial⟩
  | .BoolOp op es pos => ⟨snd_bool (snds es), trivial⟩
  | .IfExp t a b pos => ⟨snd_ite (snd t).1 (snd a).1 (snd b).1, trivial⟩
  | .Compare a ops bs pos => ⟨snd_cmp (snd a).1 (snds bs), trivial⟩
  | .Subscript a s pos => ⟨snd_sub (snd a).1 (snd s).1 (snd s).2, trivial⟩
  | .Call f es kws pos => ⟨snd_call (snds es) (snd f).2, snds es⟩
  | .ListComp elt gens scope pos => ⟨snd_lc (snd elt).1 (sndgs gens), trivial⟩
  | .Attribute o m pos => ⟨snd_none fun _ => rfl, (snd o).1⟩
  | .Slice lo hi st pos => ⟨snd_none fun _ => rfl, sndo lo, sndo hi⟩
  | .NamedExpr .. => ⟨snd_none fun _ => rfl, trivial⟩
  | .Lambda .. => ⟨snd_none fun _ => rfl, trivial⟩
  | .Dict .. => ⟨snd_none fun _ => rfl, trivial⟩
  | .Set .. => ⟨snd_none fun _ => rfl, trivial⟩
  | .SetComp .. => ⟨snd_none fun _ => rfl, trivial⟩
  | .DictComp .. => ⟨snd_none fun _ => rfl, trivial⟩
  | .GeneratorExp .. => ⟨snd_none fun _ => rfl, trivial⟩
  | .Await .. => ⟨snd_none fun _ => rfl, trivial⟩
  | .Yield .. => ⟨snd_none fun _ => rfl, trivial⟩
  | .YieldFrom .. => ⟨snd_none fun _ => rfl, trivial⟩
  | .FormattedValue .. => ⟨snd_none fun _ => rfl, trivial⟩
  | .JoinedStr .. => ⟨snd_none fun _ => rfl, trivial⟩
  | .Starred .. => ⟨snd_none fun _ => rfl, trivial⟩
theorem snds : ∀ es : List Expr, Snds P G w es
  | [], e, h => nomatch h
  | a :: es, e, h => by
    rcases List.mem_cons.mp h with h | h
    · rw [h]; exact (snd a).1
    · exact snds es e h
theorem sndo : ∀ o : Option Expr, SndO P G w o
  | none, e, h => nomatch h
  | some a, e, h => by cases h; exact (snd a).1
theorem sndg : ∀ g : Comprehension, SndG P G w g
  | ⟨t, it, ifs, a⟩ => ⟨(snd it).1, (snd it).2, snds ifs⟩
theorem sndgs : ∀ gs : List Comprehension, ∀ g ∈ gs, SndG P G w g
  | [], e, h => nomatch h
  | a :: es, e, h => by
    rcases List.mem_cons.mp h with h | h
    · rw [h]; exact sndg a
    · exact sndgs es e h
end
end
end PI
/-! PI11: statements. -/
namespace PI
open PySem PySem.Spec L2 PyProof.Rows
section
variable {P : Prg} {G : Nat → List Vl → M Vl} {w : Wd} {c : Tc} {X : Cx} {W : WT}
/-! ### stores -/
theorem sw_none {t e : Expr} {env : PySem.Env} (h : ∀ ts k p vs k2 p2, ¬ (t = .Tuple ts k p ∧ e = .Tuple vs k2 p2)) (h2 : ∀ ts p, t ≠ .List ts p) : swappedStores [t] e env = pure none := by
  cases t with
  | Tuple ts k p =>
    cases e with
    | Tuple vs k2 p2 => exact absurd ⟨rfl, rfl⟩ (h ts k p vs k2 p2)
    | _ => rfl
  | List ts p => exact absurd rfl (h2 ts p)
  | _ => rfl
theorem sw_len {ts vs : List Expr} {k k2 : Nat} {p p2 : Pos} {env : PySem.Env} (h : ¬ (ts.length = 2 ∨ ts.length = 3)) : swappedStores [.Tuple ts k p] (.Tuple vs k2 p2) env = pure none := by
  have h' : (!(ts.length == 2 || ts.length == 3) || vs.length != ts.length || env.blockKind != .function) = true := by
    simp only [Bool.or_eq_true, Bool.not_eq_true', Bool.or_eq_false_iff]
    left; left
    simp only [not_or] at h
    exact ⟨beq_false_of_ne h.1, beq_false_of_ne h.2⟩
  unfold swappedStores
  simp only [h', if_true]
theorem sw_fold {ts vs : List Expr} {k k2 : Nat} {p p2 : Pos} {env : PySem.Env} (h : vs.all (foldedForSure 8) = true) : swappedStores [.Tuple ts k p] (.Tuple vs k2 p2) env = pure none := by
  unfold swappedStores
  simp only [h, if_true]
  show (if _ then _ else _) = _
  split
  · rfl
  · show (if _ then _ else _) = _
    split
    · rfl
    · show (if _ then _ else _) = _
      split <;> rfl
def isStarE : Expr → Bool
  | .Starred .. => true
  | _ => false
theorem tr_noStar {e : Expr} {x : Ex} (h : tr c e = some x) : isStarE e = false := by
  cases e <;> first | rfl | (simp [tr] at h; done)
theorem sw_two {x y : Str} {a b : Expr} {k k2 : Nat} {px py p p2 : Pos} {env : PySem.Env} (hk : env.blockKind = .function) (hx : env.kindOf x = some .local) (hy : env.kindOf y = some .local) (hl : px.line = py.line) (hn : x ≠ y)
    (ha : isStarE a = false) (hb : isStarE b = false) (hf : [a, b].all (foldedForSure 8) = false) (hc : [a, b].all (constantsAlone 8) = false) :
    swappedStores [.Tuple [.Name x px, .Name y py] k p] (.Tuple [a, b] k2 p2) env = pure (some [x, y]) := by
  have e0' : (y == x) = false := beq_false_of_ne (Ne.symm hn)
  unfold swappedStores
  simp only [hk, hf, hc]
  simp [hx, hy, Expr.pos, hl, List.eraseDups, List.eraseDupsBy, List.eraseDupsBy.loop, e0']
  intro h
  exfalso
  rcases h with h | h
  · have h : isStarE a = true := h
    rw [ha] at h; cases h
  · have h : isStarE b = true := h
    rw [hb] at h; cases h
theorem sw_three {x y z : Str} {a b d : Expr} {k k2 : Nat} {px py pz p p2 : Pos} {env : PySem.Env} (hk : env.blockKind = .function) (hx : env.kindOf x = some .local) (hy : env.kindOf y = some .local) (hz : env.kindOf z = some .local)
    (hl : px.line = py.line) (hl2 : px.line = pz.line) (hn : x ≠ y) (hn2 : x ≠ z) (hn3 : y ≠ z)
    (ha : isStarE a = false) (hb : isStarE b = false) (hd : isStarE d = false) (hf : [a, b, d].all (foldedForSure 8) = false) (hc : [a, b, d].all (constantsAlone 8) = false) :
    swappedStores [.Tuple [.Name x px, .Name y py, .Name z pz] k p] (.Tuple [a, b, d] k2 p2) env = pure (some [x, y, z]) := by
  have e0 : (y == x) = false := beq_false_of_ne (Ne.symm hn)
  have e1 : (z == x) = false := beq_false_of_ne (Ne.symm hn2)
  have e2 : (z == y) = false := beq_false_of_ne (Ne.symm hn3)
  unfold swappedStores
  simp only [hk, hf, hc]
  have l1 : py.line = px.line := hl.symm
  have l2 : pz.line = px.line := hl2.symm
  simp [hx, hy, hz, Expr.pos, l1, l2, List.eraseDups, List.eraseDupsBy, List.eraseDupsBy.loop, e0, e1, e2]
  intro h
  exfalso
  rcases h with h | h | h
  · have h : isStarE a = true := h
    rw [ha] at h; cases h
  · have h : isStarE b = true := h
    rw [hb] at h; cases h
  · have h : isStarE d = true := h
    rw [hd] at h; cases h
/-! ### translation -/
def isComp : Expr → Bool
  | .ListComp .. => true
  | .SetComp .. => true
  | .DictComp .. => true
  | _ => false
def isFn (c : Tc) : Bool := match c.sc.kind with
  | .function => true
  | _ => false
/-- a name's own store into a comprehension's value: on one line -/
def swB (c : Tc) (x : Str) (xp : Pos) (scope : Scope) (p : Pos) : Bool := decide (c.sc.names.lookup x = some .local) && (xp.line == p.line) && !(scope.names.any fun (n, k) => n == x && (k == .local || k == .cell))
/-- a, b = x, y by way of the stack -/
def par2 (c : Tc) : List Expr → List Expr → Option (List Nat)
  | [.Name x px, .Name y py], [a, b] => match locL c x, locL c y with
    | some i, some j => if isFn c = true ∧ px.line = py.line ∧ x ≠ y ∧ i ≠ j ∧ [a, b].all (foldedForSure 8) = false ∧ [a, b].all (constantsAlone 8) = false then some [i, j] else none
    | _, _ => none
  | [.Name x px, .Name y py, .Name z pz], [a, b, d] => match locL c x, locL c y, locL c z with
    | some i, some j, some l => if isFn c = true ∧ (px.line = py.line ∧ px.line = pz.line) ∧ (x ≠ y ∧ x ≠ z ∧ y ≠ z) ∧ (i ≠ j ∧ i ≠ l ∧ j ≠ l) ∧ [a, b, d].all (foldedForSure 8) = false ∧ [a, b, d].all (constantsAlone 8) = false then some [i, j, l] else none
    | _, _, _ => none
  | _, _ => none
/-- a target that is no plain local -/
def badSt (c : Tc) : Expr → Bool
  | .Name x _ => !decide (c.sc.names.lookup x = some .local)
  | _ => true
/-- a store of a tuple's items into names as any other value's -/
def plainTT (c : Tc) (ts vs : List Expr) : Bool := vs.all (foldedForSure 8) || !(ts.length == 2 || ts.length == 3) || ts.any (badSt c)
def trAsg0 (c : Tc) (t e : Expr) : Option Sm := match trTg c t, tr c e with
  | some tg, some x => some (.asg tg x)
  | _, _ => none
def trAsg (c : Tc) (t e : Expr) : Option Sm := match t, e with
  | .Tuple ts _ _, .Tuple vs _ _ => if plainTT c ts vs = true then trAsg0 c t e else (match par2 c ts vs, trs c vs with
      | some is, some xs => some (.par is xs)
      | _, _ => none)
  | .Name x xp, .ListComp _ _ scope p => if isFn c = true then trAsg0 c t e else none
  | _, _ => if isComp e = true then none else trAsg0 c t e
def augOp : Operator → Option Bop
  | .Add => some .add
  | .Sub => some .sub
  | _ => none
def trAug (c : Tc) (t : Expr) (op : Operator) (e : Expr) : Option Sm := match t with
  | .Name x _ => match locOf c x, augOp op, tr c e with
    | some i, some o, some y => some (.aug i o y)
    | _, _, _ => none
  | _ => none
def isDoc : Expr → Bool
  | .Constant (.str _) _ _ => true
  | _ => false
def trExp (c : Tc) (e : Expr) : Option Sm := if isDoc e = true then some .pass else if isComp e = true then none else (tr c e).map .exp
mutual
def trS (c : Tc) : Stmt → Option Sm
  | .Assign ts e _ => match ts with
    | [t] => trAsg c t e
    | _ => none
  | .AugAssign t op e _ => trAug c t op e
  | .If t a b _ => match tr c t, trSs c a, trSs c b with
    | some x, some y, some z => some (.iff x y z)
    | _, _, _ => none
  | .While t b o _ => match o, tr c t, trSs c b with
    | [], some x, some y => some (.whl x y)
    | _, _, _ => none
  | .For t it b o _ => match o, trTg c t, itK c it (tr c it) (trArgs c it), trSs c b with
    | [], some tg, some k, some y => some (.fr tg k.1 k.2 y)
    | _, _, _, _ => none
  | .Return (some e) _ => (tr c e).map .ret
  | .Return none _ => some (.ret (.lit .non))
  | .Expr e _ => trExp c e
  | .Pass _ => some .pass
  | .Break _ => some .brk
  | .Continue _ => some .cnt
  | _ => none
def trSs (c : Tc) : List Stmt → Option (List Sm)
  | [] => some []
  | s :: ss => match trS c s, trSs c ss with
    | some x, some xs => some (x :: xs)
    | _, _ => none
end
/-! ### rules -/
abbrev WN : Value → Option Addr → Hp → Prop := fun _ _ _ => False
theorem res_lift {α : Type} {m : M α} {k : α → M (Env × Fl)} {env : Env} {σ : L2.St} {ι : List Addr} {H : Hp} {s : S} {D : Ends} (er : EnvRel w.K ι H env σ) (h : ResG w ι H WN (CS w W D) ((lift m env k).run s)) :
    ResG w ι H (fun c d H' => W c d σ H') (fun a s' ι' H' => ResG w ι' H' WN (CS w W D) ((k a).run s')) (m.run s) := by
  unfold lift at h
  rw [run_mbind] at h
  have e : (tryM m).run s = (match m.run s with
    | .ok a s' => .ok (.ok a) s'
    | .exc e s' => .ok (.error e) s'
    | .bad => .bad) := rfl
  rw [e] at h
  cases e2 : m.run s with
  | bad => rw [e2] at h; exact h
  | ok a s1 => rw [e2] at h; exact fun ι1 H1 _ p1 => ResG.from p1 h
  | exc x s1 =>
    rw [e2] at h
    exact fun ι1 H1 cv d R1 p1 xr => h ι1 H1 R1 p1 σ cv d (er.mono p1) xr
/-- a part that is cut off, then the rest -/
theorem res_cut {m : M Vl} {k : Vl → M (Env × Fl)} {env : Env} {σ : L2.St} {ι : List Addr} {H : Hp} {s : S} {D : Ends} {Q : VK} (R : w.R ι s H) (er : EnvRel w.K ι H env σ) (h : ResG w ι H WN (CS w W D) ((lift (frame m) env k).run s))
    (hq : ∀ v s' ι' H', w.R ι' s' H' → Post ι H ι' H' → ResG w ι' H' WN (CS w W D) ((k v).run s') → ∀ u, RepV w.K ι' H' u v → Q u H') : ResG w ι H (fun c d H' => W c d σ H') (CQ w Q) (m.run ⟨s.cells, []⟩) :=
  ResG.frame R ((res_lift er h).mono fun v s' ι' H' R' p' q u r => hq v s' ι' H' R' p' q u r)
theorem gs_asg {t e : Expr} {tg : Tg} {x : Ex} {pos : Pos} (he : PE X e (tE w W (evalE P G x))) (hg : PG X t (gT w tg)) (hs : swapsWithSole [t] e pos.line X.env = pure false) (hw : swappedStores [t] e X.env = pure none)
    (h1 : (assignEach [t] X.env).map (·.2) = [assign t X.env]) : PS X (.Assign [t] e pos) (tS w W (execS P G (.asg tg x))) := by
  refine PS.imp (ps_asg he hg hs hw h1) fun D σ H ⟨ι, env, s, R, er, h⟩ => ?_
  rw [execS] at h
  refine ⟨ι, env, ⟨s.cells, []⟩, R, er, res_cut R er h fun v s1 ι1 H1 R1 p1 q1 u r1 => ?_⟩
  refine ⟨ι1, env, s1, v, R1, er.mono p1, r1, (ResG.bind q1).mono fun env' s2 ι2 H2 R2 p2 q2 => ?_⟩
  exact q2 ι2 H2 R2 (Post.refl ι2 H2)
theorem gs_setLc {i : Nat} {y : Str} {py : Pos} {elt tg iter : Expr} {ifs : List Expr} {scope : Scope} {own : List (Str × Nat)} {pos spos : Pos} {wi : TI} {g : TG} {tt : TT} {te : TE} {x : Ex} (hc : X.calm = true) (hN : X.N.Nodup) (hy : X.N[i]? = some y) (hyl : X.env.scope.names.lookup y = some .local)
    (hsw : swapsWith (.ListComp elt [⟨tg, iter, ifs, 0⟩] scope pos) (some (.Name y py)) spos.line X.env = pure true) (hi : PI X tg iter wi) (ok : BlkOk X.N X.env.scope scope own)
    (hg : ∀ (s : Shared) (H : Hp) (C : Addr) (cl : List (Str × Addr)) (fp : List Addr), PG (X.blk s H scope (compEnvC scope cl C X.env) fp) tg g) (ht : ∀ (s : Shared) (H : Hp) (C : Addr) (cl : List (Str × Addr)) (fp : List Addr), PTs (X.blk s H scope (compEnvC scope cl C X.env) fp) ifs tt)
    (he : ∀ (s : Shared) (H : Hp) (C : Addr) (cl : List (Str × Addr)) (fp : List Addr), PE (X.blk s H scope (compEnvC scope cl C X.env) fp) elt te) (hs : ∀ x, foldedSetIterable iter X.env x = pure x)
    (hq : ∀ σ H Q, tE w W (evalE P G x) σ H Q → tLc wi g tt te (own.map (·.2)) σ H Q) :
    PS X (.Assign [.Name y py] (.ListComp elt [⟨tg, iter, ifs, 0⟩] scope pos) spos) (tS w W (execS P G (.asg (.nm i) x))) := by
  refine PS.imp (ps_setLc hc hN hy hyl hsw hi ok hg ht he hs) fun D σ H ⟨ι, env, s, R, er, h⟩ => ?_
  rw [execS] at h
  refine hq σ H _ ⟨ι, env, ⟨s.cells, []⟩, R, er, res_cut R er h fun v s1 ι1 H1 R1 p1 q1 u r1 => ?_⟩
  rw [bindTg] at q1
  exact q1 ι1 H1 R1 (Post.refl ι1 H1) _ ((er.mono p1).set r1)
theorem gs_par2 {i j : Nat} {x y : Str} {a b : Expr} {xs : List Ex} {px py pt pos : Pos} {kt k2 pt2} (hc : X.calm = true) (hN : X.N.Nodup) (hi : X.N[i]? = some x) (hj : X.N[j]? = some y) (hij : i ≠ j)
    (hx : X.env.scope.names.lookup x = some .local) (hy : X.env.scope.names.lookup y = some .local) (ha : PA X [a, b] (tA w W (evalEs P G xs)))
    (hw : swappedStores [.Tuple [.Name x px, .Name y py] kt pt] (.Tuple [a, b] k2 pt2) X.env = pure (some [x, y])) :
    PS X (.Assign [.Tuple [.Name x px, .Name y py] kt pt] (.Tuple [a, b] k2 pt2) pos) (tS w W (execS P G (.par [i, j] xs))) := by
  refine PS.imp (ps_par hc hN hi hj hij hx hy ha hw rfl) fun D σ H ⟨ι, env, s, R, er, h⟩ => ?_
  rw [execS] at h
  refine ⟨ι, env, s, R, er, (res_lift er h).mono fun vs s1 ι1 H1 R1 p1 q1 us r1 => ?_⟩
  obtain ⟨hl, q2⟩ := res_iffP q1
  match vs, hl, r1, q2 with
  | [v, v2], hl, r1, q2 =>
    obtain ⟨u, u2, rfl, r2, r3⟩ := pr2 r1
    exact ⟨u, u2, rfl, q2 ι1 H1 R1 (Post.refl ι1 H1) _ (((er.mono p1).set r2).set r3)⟩
theorem pr3 {α β : Type} {F : α → β → Prop} {xs : List α} {y z t : β} (h : Paired F xs [y, z, t]) : ∃ a b d, xs = [a, b, d] ∧ F a y ∧ F b z ∧ F d t := by
  cases h with
  | cons r h =>
    obtain ⟨a, b, rfl, r1, r2⟩ := pr2 h
    exact ⟨_, a, b, rfl, r, r1, r2⟩
theorem gs_par3 {i j l : Nat} {x y z : Str} {a b d : Expr} {xs : List Ex} {px py pz pt pos : Pos} {kt k2 pt2} (hc : X.calm = true) (hN : X.N.Nodup) (hi : X.N[i]? = some x) (hj : X.N[j]? = some y) (hl : X.N[l]? = some z) (hij : i ≠ j) (hil : i ≠ l) (hjl : j ≠ l)
    (hx : X.env.scope.names.lookup x = some .local) (hy : X.env.scope.names.lookup y = some .local) (hz : X.env.scope.names.lookup z = some .local) (ha : PA X [a, b, d] (tA w W (evalEs P G xs)))
    (hw : swappedStores [.Tuple [.Name x px, .Name y py, .Name z pz] kt pt] (.Tuple [a, b, d] k2 pt2) X.env = pure (some [x, y, z])) :
    PS X (.Assign [.Tuple [.Name x px, .Name y py, .Name z pz] kt pt] (.Tuple [a, b, d] k2 pt2) pos) (tS w W (execS P G (.par [i, j, l] xs))) := by
  refine PS.imp (ps_par3 hc hN hi hj hl hij hil hjl hx hy hz ha hw rfl) fun D σ H ⟨ι, env, s, R, er, h⟩ => ?_
  rw [execS] at h
  refine ⟨ι, env, s, R, er, (res_lift er h).mono fun vs s1 ι1 H1 R1 p1 q1 us r1 => ?_⟩
  obtain ⟨hl, q2⟩ := res_iffP q1
  match vs, hl, r1, q2 with
  | [v, v2, v3], hl, r1, q2 =>
    obtain ⟨u, u2, u3, rfl, r2, r3, r4⟩ := pr3 r1
    exact ⟨u, u2, u3, rfl, q2 ι1 H1 R1 (Post.refl ι1 H1) _ ((((er.mono p1).set r2).set r3).set r4)⟩
theorem ip_any {op : Operator} {o : Bop} (h : augOp op = some o) (W' : Value → Option Addr → Hp → Prop) : PIp X op (rOp w W' (iopM o)) := by
  cases op <;> try (cases h; done)
  · cases h
    intro pins s σ H x y v u Q I rx ry ⟨ι, s1, v1, v2, R, r1, r2, q⟩
    cases v1 with
    | ref n => exact absurd q id
    | dat d =>
      cases v2 with
      | ref n => cases d <;> exact absurd q id
      | dat d2 =>
        cases d with
        | int i =>
          cases d2 with
          | int j => exact iop_add pins s σ H x y v u Q I rx ry ⟨i, j, repv_int.mp r1, repv_int.mp r2, res_int q R⟩
          | _ => exact absurd q id
        | str i =>
          cases d2 with
          | str j =>
            obtain ⟨hz, q⟩ := res_iff q
            exact iop_add_str pins s σ H x y v u Q I rx ry ⟨i, j, repv_str.mp r1, repv_str.mp r2, hz, res_str q R⟩
          | _ => exact absurd q id
        | _ => cases d2 <;> exact absurd q id
  · cases h
    intro pins s σ H x y v u Q I rx ry ⟨ι, s1, v1, v2, R, r1, r2, q⟩
    cases v1 with
    | ref n => exact absurd q id
    | dat d =>
      cases v2 with
      | ref n => cases d <;> exact absurd q id
      | dat d2 =>
        cases d with
        | int i =>
          cases d2 with
          | int j => exact iop_sub pins s σ H x y v u Q I rx ry ⟨i, j, repv_int.mp r1, repv_int.mp r2, res_int q R⟩
          | _ => exact absurd q id
        | _ => cases d2 <;> exact absurd q id
theorem gs_aug {i : Nat} {x : Str} {e : Expr} {y : Ex} {op : Operator} {o : Bop} {pos' pos : Pos} (hN : X.N.Nodup) (hi : X.N[i]? = some x) (hx : Loc X.env.scope x) (hf : X.fn x = true ∨ X.env.scope.names.lookup x = some .local) (he : PE X e (tE w W (evalE P G y))) (ho : augOp op = some o) :
    PS X (.AugAssign (.Name x pos') op e pos) (tS w W (execS P G (.aug i o y))) := by
  refine ⟨fun pins s σ H D I h => ?_⟩
  refine (ps_aug (pos' := pos') (pos := pos) hN hi hx he (ip_any (w := w) ho fun c d H' => W c d σ H') hf).run pins s σ H D I ?_
  obtain ⟨ι, env, s1, R, er, h⟩ := h
  rw [execS] at h
  have q0 : ResG w ι H (fun c d H' => W c d σ H') (CQ w fun u H' => D.nx (σ.set i (some u)) H') ((M.bind (slot env i) fun x => M.bind (evalE P G y env) fun z => iopM o x z).run ⟨s1.cells, []⟩) :=
    res_cut R er h fun v s2 ι2 H2 R2 p2 q2 u r2 => q2 ι2 H2 R2 (Post.refl ι2 H2) _ ((er.mono p2).set r2)
  unfold slot at q0
  cases e1 : env[i]? with
  | none => rw [e1] at q0; exact absurd q0 id
  | some ov =>
    cases ov with
    | none => rw [e1] at q0; exact absurd q0 id
    | some v =>
      rw [e1] at q0
      obtain ⟨u, h1, h2⟩ := er.2 i v e1
      have q1 : ResG w ι H (fun c d H' => W c d σ H') (CQ w fun u H' => D.nx (σ.set i (some u)) H') ((M.bind (evalE P G y env) fun z => iopM o v z).run ⟨s1.cells, []⟩) := q0
      refine ⟨u, h1, ι, env, ⟨s1.cells, []⟩, R, er, (ResG.bind q1).mono fun v2 s2 ι2 H2 R2 p2 q2 u2 r2 => ?_⟩
      exact ⟨ι2, s2, v, v2, R2, h2.mono p2, r2, q2⟩
/-- a test, its leavings cut off -/
theorem res_test {cx : Ex} {env : Env} {ι : List Addr} {H : Hp} {s : S} {W' : Value → Option Addr → Hp → Prop} {Q : Bool → Hp → Prop} (R : w.R ι s H) (h : ResG w ι H W' (fun b _ _ H' => Q b H') ((testM P G cx env).run s)) :
    ResG w ι H W' (fun b _ _ H' => Q b H') ((tst P G cx env).run ⟨s.cells, []⟩) := by
  unfold testM at h
  have h1 := ResG.bind h
  have h2 : ResG w ι H W' (CQ w fun u H' => ∃ b, u = .bl b ∧ Q b H') ((frame (M.bind (evalE P G cx env) fun x => M.bind (truM x) fun k => M.pure (.dat (.bl k)))).run s) :=
    h1.mono fun v s1 ι1 H1 R1 p1 q1 u r1 => by
      cases v with
      | ref n => exact absurd q1 id
      | dat d =>
        cases d with
        | bl b => exact ⟨b, repv_bl.mp r1, q1 ι1 H1 R1 (Post.refl ι1 H1)⟩
        | _ => exact absurd q1 id
  have h3 := ResG.frame R h2
  have e : (M.bind (evalE P G cx env) fun x => M.bind (truM x) fun k => M.pure (Vl.dat (.bl k))) = M.bind (tst P G cx env) fun k => M.pure (Vl.dat (.bl k)) := by
    unfold tst
    rw [mbind_assoc]
  rw [e] at h3
  refine (ResG.bind h3).mono fun b s1 ι1 H1 R1 p1 q1 => ?_
  obtain ⟨b2, e2, q2⟩ := q1 ι1 H1 R1 (Post.refl ι1 H1) (.bl b) (repv_bl.mpr rfl)
  cases e2
  exact q2
theorem gs_if {t : Expr} {a b : List Stmt} {x : Ex} {ya yb : List Sm} {pos : Pos} (ht : PT X t (tT w W (tst P G x))) (ha : PSs X a (tS w W (execSs P G ya))) (hb : PSs X b (tS w W (execSs P G yb))) : PS X (.If t a b pos) (tS w W (execS P G (.iff x ya yb))) := by
  refine PS.imp (ps_if ht ha hb) fun D σ H ⟨ι, env, s, R, er, h⟩ => ?_
  rw [execS] at h
  have h1 := res_lift er h
  have h2 : ResG w ι H (fun c d H' => W c d σ H') (fun k _ _ H' => if k = true then tS w W (execSs P G ya) D σ H' else tS w W (execSs P G yb) D σ H') ((testM P G x env).run s) := h1.mono fun k s1 ι1 H1 R1 p1 q1 => by
    cases k with
    | true => rw [if_pos rfl]; exact ⟨ι1, env, s1, R1, er.mono p1, q1⟩
    | false => rw [if_neg (by decide)]; exact ⟨ι1, env, s1, R1, er.mono p1, q1⟩
  exact ⟨ι, env, ⟨s.cells, []⟩, R, er, res_test R h2⟩
theorem gs_ret {e : Expr} {x : Ex} {pos : Pos} (he : PE X e (tE w W (evalE P G x))) : PS X (.Return (some e) pos) (tS w W (execS P G (.ret x))) := by
  refine PS.imp (ps_ret he) fun D σ H ⟨ι, env, s, R, er, h⟩ => ?_
  rw [execS] at h
  exact ⟨ι, env, ⟨s.cells, []⟩, R, er, res_cut R er h fun v s1 ι1 H1 R1 p1 q1 u r1 => q1 ι1 H1 R1 (Post.refl ι1 H1) u r1⟩
theorem gs_retN {pos : Pos} : PS X (.Return none pos) (tS w W (execS P G (.ret (.lit .non)))) := by
  refine PS.imp ps_retN fun D σ H ⟨ι, env, s, R, er, h⟩ => ?_
  rw [execS] at h
  have := res_cut (Q := D.rt) R er h fun v s1 ι1 H1 R1 p1 q1 u r1 => q1 ι1 H1 R1 (Post.refl ι1 H1) u r1
  rw [evalE] at this
  exact res_non this R
theorem gs_exp {e : Expr} {x : Ex} {pos : Pos} (he : PE X e (tE w W (evalE P G x))) (hs : swapsWith e none pos.line X.env = pure false) : PS X (.Expr e pos) (tS w W (execS P G (.exp x))) := by
  refine PS.imp (ps_expr he hs) fun D σ H ⟨ι, env, s, R, er, h⟩ => ?_
  rw [execS] at h
  exact ⟨ι, env, ⟨s.cells, []⟩, R, er, res_cut R er h fun v s1 ι1 H1 R1 p1 q1 u r1 => q1 ι1 H1 R1 (Post.refl ι1 H1) σ (er.mono p1)⟩
theorem gs_pass {st : Stmt} (h : PS X st tNext) : PS X st (tS w W (execS P G .pass)) := by
  refine PS.imp h fun D σ H ⟨ι, env, s, R, er, h⟩ => ?_
  rw [execS] at h
  exact h ι H R (Post.refl ι H) σ er
theorem gs_brk {pos : Pos} : PS X (.Break pos) (tS w W (execS P G .brk)) := by
  refine PS.imp ps_break fun D σ H ⟨ι, env, s, R, er, h⟩ => ?_
  rw [execS] at h
  exact h ι H R (Post.refl ι H) σ er
theorem gs_cnt {pos : Pos} : PS X (.Continue pos) (tS w W (execS P G .cnt)) := by
  refine PS.imp ps_continue fun D σ H ⟨ι, env, s, R, er, h⟩ => ?_
  rw [execS] at h
  exact h ι H R (Post.refl ι H) σ er
theorem gss_nil : PSs X [] (tS w W (execSs P G [])) := by
  refine PSs.imp pss_nil fun D σ H ⟨ι, env, s, R, er, h⟩ => ?_
  rw [execSs] at h
  exact h ι H R (Post.refl ι H) σ er
/-- a statement, then more: by how it ends -/
theorem cs_seq {D D' : Ends} {r : Env × Fl} {s : S} {ι : List Addr} {H : Hp} {f : Env → M (Env × Fl)} (R : w.R ι s H) (h : ResG w ι H WN (CS w W D) ((match r.2 with
    | .nx => f r.1
    | fl => M.pure (r.1, fl)).run s)) (hn : ∀ σ', EnvRel w.K ι H r.1 σ' → ResG w ι H WN (CS w W D) ((f r.1).run s) → D'.nx σ' H) (hr : D'.rt = D.rt) (hb : D'.bk = D.bk) (hc : D'.ct = D.ct) : CS w W D' r s ι H := by
  obtain ⟨env, fl⟩ := r
  cases fl with
  | nx => exact fun σ' er => hn σ' er h
  | bk => show ∀ σ', EnvRel w.K ι H env σ' → D'.bk σ' H; rw [hb]; exact h ι H R (Post.refl ι H)
  | ct => show ∀ σ', EnvRel w.K ι H env σ' → D'.ct σ' H; rw [hc]; exact h ι H R (Post.refl ι H)
  | rt v => show ∀ u, RepV w.K ι H u v → D'.rt u H; rw [hr]; exact h ι H R (Post.refl ι H)
  | rs e => exact h ι H R (Post.refl ι H)
theorem gss_cons {st : Stmt} {rest : List Stmt} {x : Sm} {xs : List Sm} (h1 : PS X st (tS w W (execS P G x))) (h2 : PSs X rest (tS w W (execSs P G xs))) : PSs X (st :: rest) (tS w W (execSs P G (x :: xs))) := by
  refine PSs.imp (pss_cons h1 h2) fun D σ H ⟨ι, env, s, R, er, h⟩ => ?_
  rw [execSs] at h
  refine ⟨ι, env, s, R, er, (ResG.bind h).mono fun r s1 ι1 H1 R1 p1 q1 => ?_⟩
  exact cs_seq (D := D) R1 q1 (fun σ' er' q => ⟨ι1, r.1, s1, R1, er', q⟩) rfl rfl rfl
/-! ### loops -/
theorem gs_for {tg iter : Expr} {body : List Stmt} {t : Tg} {k : ItK} {args : List Ex} {ys : List Sm} {pos : Pos} (hp : PassesOwn (model X.prog X.w) X.A X.env X.xe) (hc : X.calm = true) (hi : PI X tg iter (tI w W (itv P G k args))) (hg : PG X tg (gT w t))
    (hb : PSs X body (tS w W (execSs P G ys))) (hs : ∀ x, foldedSetIterable iter X.env x = pure x) : PS X (.For tg iter body [] pos) (tS w W (execS P G (.fr t k args ys))) := by
  refine PS.imp (ps_for hp hc hi hg hb hs) fun D σ H ⟨ι, env, s, R, er, h⟩ => ?_
  rw [execS] at h
  refine ⟨ι, env, s, R, er, (res_lift er h).mono fun p s1 ι1 H1 R1 p1 q1 J jok => ?_⟩
  obtain ⟨items, src⟩ := p
  have q1 : ResG w ι1 H1 WN (CS w W D) ((forGo items src (fun v env => M.bind (bindTg t v env) fun env' => execSs P G ys env') items env).run s1) := q1
  refine ⟨fun i m σ' Hc => i + m = items.length ∧ ∃ ι' env' s', w.R ι' s' Hc ∧ EnvRel w.K ι' Hc env' σ' ∧ Post ι1 H1 ι' Hc ∧ ResG w ι' Hc WN (CS w W D) ((forGo items src (fun v env => M.bind (bindTg t v env) fun env' => execSs P G ys env') (items.drop i) env').run s'),
    ⟨items.length, by omega, ι1, env, s1, R1, er.mono p1, Post.refl ι1 H1, q1⟩, ?_⟩
  rintro i m σ' Hc ⟨him, ι', env', s', R', er', p', q'⟩
  by_cases hi : i < items.length
  · refine .inr ?_
    rw [List.drop_eq_getElem_cons hi, forGo] at q'
    obtain ⟨src_ok, q'⟩ := res_stays q'
    refine ⟨jok.go ι' _ Hc i R' p' src_ok hi, fun σ3 H3 => ∃ m', m' < m ∧ (i + 1 + m' = items.length ∧ ∃ ι' env' s', w.R ι' s' H3 ∧ EnvRel w.K ι' H3 env' σ3 ∧ Post ι1 H1 ι' H3 ∧ ResG w ι' H3 WN (CS w W D) ((forGo items src (fun v env => M.bind (bindTg t v env) fun env' => execSs P G ys env') (items.drop (i + 1)) env').run s')), fun σ3 H3 h => h, fun u Hy y => ?_⟩
    obtain ⟨v, hv, Ry, py, rv⟩ := jok.yld ι' _ Hc i u Hy R' p' src_ok hi y
    rw [List.getElem?_eq_getElem hi] at hv
    cases hv
    have ey := er'.mono py
    have qy := q'.from py
    rw [mbind_assoc] at qy
    refine ⟨ι', env', s', _, Ry, ey, rv, (ResG.bind qy).mono fun env2 s2 ι2 H2 R2 p2 q2 σ2 er2 => ?_⟩
    refine ⟨ι2, env2, s2, R2, er2, (ResG.bind q2).mono fun r s3 ι3 H3 R3 p3 q3 => ?_⟩
    have pp : Post ι1 H1 ι3 H3 := ((p'.trans py).trans p2).trans p3
    obtain ⟨env3, fl⟩ := r
    have next : ∀ σ3, EnvRel w.K ι3 H3 env3 σ3 → ResG w ι3 H3 WN (CS w W D) ((forGo items src (fun v env => M.bind (bindTg t v env) fun env' => execSs P G ys env') (items.drop (i + 1)) env3).run s3) → ∃ m', m' < m ∧ (i + 1 + m' = items.length ∧ ∃ ι' env' s', w.R ι' s' H3 ∧ EnvRel w.K ι' H3 env' σ3 ∧ Post ι1 H1 ι' H3 ∧ ResG w ι' H3 WN (CS w W D) ((forGo items src (fun v env => M.bind (bindTg t v env) fun env' => execSs P G ys env') (items.drop (i + 1)) env').run s')) :=
      fun σ3 er3 q => ⟨m - 1, by omega, by omega, ι3, env3, s3, R3, er3, pp, q⟩
    cases fl with
    | nx => exact fun σ3 er3 => next σ3 er3 q3
    | ct => exact fun σ3 er3 => next σ3 er3 q3
    | bk => exact fun σ3 er3 => q3 ι3 H3 R3 (Post.refl ι3 H3) σ3 er3
    | rt v => exact q3 ι3 H3 R3 (Post.refl ι3 H3)
    | rs e => exact q3 ι3 H3 R3 (Post.refl ι3 H3)
  · have e : i = items.length := by omega
    subst e
    refine .inl ?_
    rw [List.drop_length, forGo] at q'
    obtain ⟨src_ok, q'⟩ := res_stays q'
    exact ⟨jok.stop ι' _ Hc R' p' src_ok, q' ι' Hc R' (Post.refl ι' Hc) σ' er'⟩
theorem try_run {α : Type} {m : M α} {s s' : S} {r : Except Exc α} (h : (tryM m).run s = .ok r s') : (∃ a, r = .ok a ∧ m.run s = .ok a s') ∨ ∃ e, r = .error e ∧ m.run s = .exc e s' := by
  have e : (tryM m).run s = (match m.run s with
    | .ok a s' => .ok (.ok a) s'
    | .exc e s' => .ok (.error e) s'
    | .bad => .bad) := rfl
  rw [e] at h
  cases e2 : m.run s with
  | bad => rw [e2] at h; cases h
  | ok a s1 => rw [e2] at h; cases h; exact .inl ⟨a, rfl, rfl⟩
  | exc x s1 => rw [e2] at h; cases h; exact .inr ⟨x, rfl, rfl⟩
theorem gs_while {tc : Expr} {body : List Stmt} {x : Ex} {ys : List Sm} {pos : Pos} (hp : PassesOwn (model X.prog X.w) X.A X.env X.xe) (hc : PT X tc (tT w W (tst P G x))) (hb : PSs X body (tS w W (execSs P G ys))) :
    PS X (.While tc body [] pos) (tS w W (execS P G (.whl x ys))) := by
  refine PS.imp (ps_while hp hc hb) fun D σ H ⟨ι, env, s, R, er, h⟩ => ?_
  rw [execS] at h
  have hw : (wh (testM P G x) (fun env => execSs P G ys env) env).run s = (open Classical in if h : ∃ n x' s', (whN (testM P G x) (fun env => execSs P G ys env) n env).run s = .ok (some x') s' then .ok (choose (choose_spec h)) (choose (choose_spec (choose_spec h))) else .bad) := rfl
  rw [hw] at h
  by_cases hh : ∃ n x' s', (whN (testM P G x) (fun env => execSs P G ys env) n env).run s = .ok (some x') s'
  · rw [dif_pos hh] at h
    obtain ⟨n, xf, sf, e, h⟩ : ∃ n xf sf, (whN (testM P G x) (fun env => execSs P G ys env) n env).run s = .ok (some xf) sf ∧ ResG w ι H WN (CS w W D) (.ok xf sf) :=
      ⟨_, _, _, Classical.choose_spec (Classical.choose_spec (Classical.choose_spec hh)), h⟩
    refine ⟨fun m σ' Hc => ∃ ι' env' s', w.R ι' s' Hc ∧ EnvRel w.K ι' Hc env' σ' ∧ Post ι H ι' Hc ∧ (whN (testM P G x) (fun env => execSs P G ys env) m env').run s' = .ok (some xf) sf, ⟨n, ι, env, s, R, er, Post.refl ι H, e⟩, ?_⟩
    rintro m σ' Hc ⟨ι', env', s', R', er', p', e'⟩
    cases m with
    | zero => cases e'
    | succ m =>
      rw [whN] at e'
      obtain ⟨r, s1, t1, t2⟩ := mbind_ok e'
      have h' : ResG w ι' Hc (fun c d H' => W c d σ' H') (fun b _ _ H' => (if b = true then ∃ N : L2.St → Hp → Prop, (∀ σ2 H2, N σ2 H2 → ∃ m', m' < m + 1 ∧ ∃ ι' env' s', w.R ι' s' H2 ∧ EnvRel w.K ι' H2 env' σ2 ∧ Post ι H ι' H2 ∧ (whN (testM P G x) (fun env => execSs P G ys env) m' env').run s' = .ok (some xf) sf) ∧
          tS w W (execSs P G ys) { D with nx := N, ct := N, bk := D.nx } σ' H' else D.nx σ' H')) ((testM P G x env').run s') := by
        rcases try_run t1 with ⟨b, rfl, t3⟩ | ⟨ex, rfl, t3⟩
        · rw [t3]
          intro ι2 H2 R2 p2
          cases b with
          | false =>
            rw [if_neg (by decide)]
            cases t2
            exact h ι2 H2 R2 (p'.trans p2) σ' (er'.mono p2)
          | true =>
            rw [if_pos rfl]
            refine ⟨fun σ3 H3 => ∃ m', m' < m + 1 ∧ ∃ ι' env' s', w.R ι' s' H3 ∧ EnvRel w.K ι' H3 env' σ3 ∧ Post ι H ι' H3 ∧ (whN (testM P G x) (fun env => execSs P G ys env) m' env').run s' = .ok (some xf) sf, fun _ _ z => z, ι2, env', s1, R2, er'.mono p2, ?_⟩
            obtain ⟨r3, s3, t4, t5⟩ := mbind_ok t2
            rw [t4]
            intro ι3 H3 R3 p3
            have pp : Post ι H ι3 H3 := (p'.trans p2).trans p3
            obtain ⟨env3, fl⟩ := r3
            cases fl with
            | nx => exact fun σ3 er3 => ⟨m, by omega, ι3, env3, s3, R3, er3, pp, t5⟩
            | ct => exact fun σ3 er3 => ⟨m, by omega, ι3, env3, s3, R3, er3, pp, t5⟩
            | bk => cases t5; exact h ι3 H3 R3 pp
            | rt v => cases t5; exact h ι3 H3 R3 pp
            | rs e => cases t5; exact h ι3 H3 R3 pp
        · rw [t3]
          cases t2
          exact fun ι2 H2 cv d R2 p2 xr => h ι2 H2 R2 (p'.trans p2) σ' cv d (er'.mono p2) xr
      exact ⟨ι', env', ⟨s'.cells, []⟩, R', er', res_test R' h'⟩
  · rw [dif_neg hh] at h
    exact absurd h id
/-! ### all statements -/
theorem sole_false {t e : Expr} {l : Nat} {env : PySem.Env} (h : isComp e = false) : swapsWithSole [t] e l env = pure false := by
  cases e <;> first | rfl | cases h
theorem drop_false {e : Expr} {l : Nat} {env : PySem.Env} (h : isComp e = false) : swapsWith e none l env = pure false := by
  cases e <;> first | rfl | cases h
theorem blk_fn (I : XOk P G w c X) (h : isFn c = true) : X.env.scope.kind = .function ∧ X.env.blockKind = .function := by
  have hk : X.env.scope.kind = .function := by
    rw [I.sc]
    unfold isFn at h
    split at h
    · assumption
    · cases h
  exact ⟨hk, by unfold Env.blockKind; rw [hk]; rfl⟩
theorem asg_plain {t e : Expr} {x : Sm} {pos : Pos} (I : XOk P G w c X) (tk : Takes X W) (hc : swapsWithSole [t] e pos.line X.env = pure false) (hw : swappedStores [t] e X.env = pure none) (h : trAsg0 c t e = some x) : PS X (.Assign [t] e pos) (tS w W (execS P G x)) := by
  unfold trAsg0 at h
  cases e1 : trTg c t with
  | none => rw [e1] at h; cases h
  | some tg =>
    cases e2 : tr c e with
    | none => rw [e1, e2] at h; cases h
    | some y =>
      rw [e1, e2] at h
      cases h
      exact gs_asg ((snd e).1 c X W y I tk e2).1 (tg_ok t I e1).1 hc hw (by rw [tg_plain e1]; rfl)
theorem filterMap_lt {α β : Type} {f : α → Option β} : ∀ {l : List α}, (∃ a ∈ l, f a = none) → (l.filterMap f).length ≠ l.length
  | [], h => by obtain ⟨a, h, _⟩ := h; cases h
  | b :: l, h => by
    have hle := List.length_filterMap_le f l
    cases e : f b with
    | none =>
      rw [List.filterMap_cons, e]
      simp only [List.length_cons]
      omega
    | some y =>
      rw [List.filterMap_cons, e]
      obtain ⟨a, ha, hn⟩ := h
      rcases List.mem_cons.mp ha with q | q
      · rw [q, e] at hn; cases hn
      · have := filterMap_lt ⟨a, q, hn⟩
        simp only [List.length_cons]
        omega
theorem sw_bad {ts vs : List Expr} {k k2 : Nat} {p p2 : Pos} (I : XOk P G w c X) (h : ts.any (badSt c) = true) : swappedStores [.Tuple ts k p] (.Tuple vs k2 p2) X.env = pure none := by
  obtain ⟨t, ht, hb⟩ := List.any_eq_true.mp h
  have hn : ∀ l : Nat, (match t with
    | .Name id pos => if (X.env.kindOf id == some .local && pos.line == l) = true then some id else none
    | _ => none) = none := fun l => by
    cases t with
    | Name x px =>
      have : X.env.kindOf x ≠ some .local := fun q => by
        have q : X.env.scope.names.lookup x = some .local := q
        rw [I.sc] at q
        simp [badSt, q] at hb
      show (if (X.env.kindOf x == some .local && px.line == l) = true then some x else none) = none
      rw [beq_false_of_ne this]
      rfl
    | _ => rfl
  unfold swappedStores
  show (if _ then _ else _) = _
  split
  · rfl
  · show (if _ then _ else _) = _
    split
    · rfl
    · show (if _ then _ else _) = _
      split
      · rfl
      · rename_i hq
        exfalso
        apply hq
        rw [Bool.or_eq_true_iff]
        left
        rw [bne_iff_ne]
        exact filterMap_lt ⟨t, ht, hn _⟩
theorem sole_name {y : Str} {py : Pos} {elt : Expr} {gens : List Comprehension} {scope : Scope} {p : Pos} {l : Nat} (I : XOk P G w c X) (hf : isFn c = true) (h : swB c y py scope p = false) : swapsWithSole [.Name y py] (.ListComp elt gens scope p) l X.env = pure false := by
  have hb := (blk_fn I hf).2
  show swapsWith (.ListComp elt gens scope p) (some (.Name y py)) l X.env = pure false
  have e : swapsWith (.ListComp elt gens scope p) (some (.Name y py)) l X.env = pure (X.env.blockKind == .function && X.env.kindOf y == some .local && py.line == p.line && !(scope.names.any fun (n, k) => n == y && (k == .local || k == .cell))) := rfl
  rw [e, hb]
  have e2 : (X.env.kindOf y == some .local) = decide (c.sc.names.lookup y = some .local) := by
    have e3 : X.env.kindOf y = c.sc.names.lookup y := by rw [← I.sc]; rfl
    rw [e3]
    by_cases q : c.sc.names.lookup y = some .local
    · rw [q, decide_eq_true rfl]; rfl
    · rw [decide_eq_false q]; exact beq_false_of_ne q
  rw [e2]
  unfold swB at h
  have e4 : (ScopeKind.function == ScopeKind.function) = true := rfl
  rw [e4, Bool.true_and, h]
theorem sw_notT {t e : Expr} {tg : Tg} {env : PySem.Env} (ht : trTg c t = some tg) (h : ∀ ts k p vs k2 p2, ¬ (t = .Tuple ts k p ∧ e = .Tuple vs k2 p2)) : swappedStores [t] e env = pure none :=
  sw_none h fun ts p e => by subst e; cases ht
theorem par_ok {ts vs : List Expr} {k k2 : Nat} {p p2 pos : Pos} {is : List Nat} {xs : List Ex} (I : XOk P G w c X) (tk : Takes X W) (h1 : par2 c ts vs = some is) (h2 : trs c vs = some xs) :
    PS X (.Assign [.Tuple ts k p] (.Tuple vs k2 p2) pos) (tS w W (execS P G (.par is xs))) := by
  have hN : X.N.Nodup := by rw [I.N]; exact I.nd
  have ha : PA X vs (tA w W (evalEs P G xs)) := sa (snds vs) I tk h2
  unfold par2 at h1
  split at h1
  · rename_i x px y py a b
    cases e1 : locL c x with
    | none => rw [e1] at h1; cases h1
    | some i =>
      cases e2 : locL c y with
      | none => rw [e1, e2] at h1; cases h1
      | some j =>
        rw [e1, e2] at h1
        simp only [] at h1
        split at h1
        · rename_i hq
          cases h1
          obtain ⟨q1, q2, q3, q4, q5, q6⟩ := hq
          obtain ⟨l1, l2⟩ := locL_ok I e1
          obtain ⟨l3, l4⟩ := locL_ok I e2
          obtain ⟨y1, ys1, f1, f2, _⟩ := trs_cons h2
          obtain ⟨y2, ys2, f3, f4, _⟩ := trs_cons f2
          exact gs_par2 I.calm hN l1 l3 q4 l2 l4 ha (sw_two (blk_fn I q1).2 l2 l4 q2 q3 (tr_noStar f1) (tr_noStar f3) q5 q6)
        · cases h1
  · rename_i x px y py z pz a b d
    cases e1 : locL c x with
    | none => rw [e1] at h1; cases h1
    | some i =>
      cases e2 : locL c y with
      | none => rw [e1, e2] at h1; cases h1
      | some j =>
        cases e3 : locL c z with
        | none => rw [e1, e2, e3] at h1; cases h1
        | some l =>
          rw [e1, e2, e3] at h1
          simp only [] at h1
          split at h1
          · rename_i hq
            cases h1
            obtain ⟨q1, ⟨q2, q2'⟩, ⟨q3, q3', q3''⟩, ⟨q4, q4', q4''⟩, q5, q6⟩ := hq
            obtain ⟨l1, l2⟩ := locL_ok I e1
            obtain ⟨l3, l4⟩ := locL_ok I e2
            obtain ⟨l5, l6⟩ := locL_ok I e3
            obtain ⟨y1, ys1, f1, f2, _⟩ := trs_cons h2
            obtain ⟨y2, ys2, f3, f4, _⟩ := trs_cons f2
            obtain ⟨y3, ys3, f5, f6, _⟩ := trs_cons f4
            exact gs_par3 I.calm hN l1 l3 l5 q4 q4' q4'' l2 l4 l6 ha (sw_three (blk_fn I q1).2 l2 l4 l6 q2 q2' q3 q3' q3'' (tr_noStar f1) (tr_noStar f3) (tr_noStar f5) q5 q6)
          · cases h1
  · cases h1
theorem asg_ok {t e : Expr} {x : Sm} {pos : Pos} (I : XOk P G w c X) (tk : Takes X W) (h : trAsg c t e = some x) : PS X (.Assign [t] e pos) (tS w W (execS P G x)) := by
  unfold trAsg at h
  split at h
  · rename_i ts k p vs k2 p2
    split at h
    · rename_i hp
      refine asg_plain I tk (sole_false rfl) ?_ h
      unfold plainTT at hp
      rcases Bool.or_eq_true_iff.mp hp with hp | hp
      · rcases Bool.or_eq_true_iff.mp hp with hp | hp
        · exact sw_fold hp
        · refine sw_len fun q => ?_
          rcases q with q | q <;> simp [q] at hp
      · exact sw_bad I hp
    · cases e1 : par2 c ts vs with
      | none => rw [e1] at h; cases h
      | some is =>
        cases e2 : trs c vs with
        | none => rw [e1, e2] at h; cases h
        | some xs =>
          rw [e1, e2] at h
          cases h
          exact par_ok I tk e1 e2
  · rename_i y py elt gens scope p
    split at h
    · rename_i hf
      cases hs : swB c y py scope p with
      | false => exact asg_plain I tk (sole_name I hf hs) (sw_none (fun ts k p vs k2 p2 q => nomatch q.1) (fun ts p q => nomatch q)) h
      | true =>
        unfold trAsg0 at h
        cases e1 : trTg c (.Name y py) with
        | none => rw [e1] at h; cases h
        | some tg =>
          cases e2 : tr c (.ListComp elt gens scope p) with
          | none => rw [e1, e2] at h; cases h
          | some z =>
            rw [e1, e2] at h
            cases h
            obtain ⟨tgt, iter, ifs, own, wi, g, tt, te, rfl, hN, hI, bok, htg, hts, hel, hfold, q⟩ := lc_parts (snd elt).1 (sndgs gens) I tk e2
            unfold swB at hs
            simp only [Bool.and_eq_true, Bool.not_eq_true', decide_eq_true_eq] at hs
            obtain ⟨⟨q2, q3⟩, q4⟩ := hs
            unfold trTg at e1
            cases e3 : locOf c y with
            | none => rw [e3] at e1; cases e1
            | some i =>
              rw [e3] at e1
              cases e1
              obtain ⟨l1, l2, l3⟩ := loc_ok I e3
              have l4 : X.env.scope.names.lookup y = some .local := by rw [I.sc]; exact q2
              exact gs_setLc I.calm hN l1 l4 (sw_true (blk_fn I hf).1 l4 q3 q4) hI bok htg hts hel hfold q
    · cases h
  · rename_i hn1 hn2
    split at h
    · cases h
    · rename_i hc
      have hc : isComp e = false := by cases hq : isComp e with
        | true => exact absurd hq hc
        | false => rfl
      cases e1 : trTg c t with
      | none => unfold trAsg0 at h; rw [e1] at h; cases h
      | some tg =>
        exact asg_plain I tk (sole_false hc) (sw_notT e1 fun ts k p vs k2 p2 ⟨a, b⟩ => hn1 ts k p vs k2 p2 a b) h
def SndS (P : Prg) (G : Nat → List Vl → M Vl) (w : Wd) (st : Stmt) : Prop := ∀ (c : Tc) (X : Cx) (W : WT) (x : Sm), XOk P G w c X → Takes X W → PassesOwn (model X.prog X.w) X.A X.env X.xe → trS c st = some x → PS X st (tS w W (execS P G x))
def SndSs (P : Prg) (G : Nat → List Vl → M Vl) (w : Wd) (st : List Stmt) : Prop := ∀ (c : Tc) (X : Cx) (W : WT) (x : List Sm), XOk P G w c X → Takes X W → PassesOwn (model X.prog X.w) X.A X.env X.xe → trSs c st = some x → PSs X st (tS w W (execSs P G x))
theorem sndS_none {st : Stmt} (h : ∀ c, trS c st = none) : SndS P G w st := fun c X W x I tk hp e => by rw [h c] at e; cases e
mutual
theorem sndS : ∀ st : Stmt, SndS P G w st
  | .Assign ts e pos => fun c X W x I tk hp h => by
    unfold trS at h
    split at h
    · exact asg_ok I tk h
    · cases h
  | .AugAssign t op e pos => fun c X W x I tk hp h => by
    unfold trS trAug at h
    split at h
    · rename_i y py
      cases e1 : locOf c y with
      | none => rw [e1] at h; cases h
      | some i =>
        cases e2 : augOp op with
        | none => rw [e1, e2] at h; cases h
        | some o =>
          cases e3 : tr c e with
          | none => rw [e1, e2, e3] at h; cases h
          | some z =>
            rw [e1, e2, e3] at h
            cases h
            obtain ⟨l1, l2, l3⟩ := loc_ok I e1
            exact gs_aug (by rw [I.N]; exact I.nd) l1 l2 l3 ((snd e).1 c X W z I tk e3).1 e2
    · cases h
  | .If t a b pos => fun c X W x I tk hp h => by
    unfold trS at h
    cases e1 : tr c t with
    | none => rw [e1] at h; cases h
    | some y =>
      cases e2 : trSs c a with
      | none => rw [e1, e2] at h; cases h
      | some ya =>
        cases e3 : trSs c b with
        | none => rw [e1, e2, e3] at h; cases h
        | some yb =>
          rw [e1, e2, e3] at h
          cases h
          exact gs_if ((snd t).1 c X W y I tk e1).2 (sndSs a c X W ya I tk hp e2) (sndSs b c X W yb I tk hp e3)
  | .While t b o pos => fun c X W x I tk hp h => by
    unfold trS at h
    cases o with
    | cons p q => cases h
    | nil =>
      cases e1 : tr c t with
      | none => rw [e1] at h; cases h
      | some y =>
        cases e2 : trSs c b with
        | none => rw [e1, e2] at h; cases h
        | some ya =>
          rw [e1, e2] at h
          cases h
          exact gs_while hp ((snd t).1 c X W y I tk e1).2 (sndSs b c X W ya I tk hp e2)
  | .For t it b o pos => fun c X W x I tk hp h => by
    unfold trS at h
    cases o with
    | cons p q => cases h
    | nil =>
      cases e1 : trTg c t with
      | none => rw [e1] at h; cases h
      | some tg =>
        cases e2 : itK c it (tr c it) (trArgs c it) with
        | none => rw [e1, e2] at h; cases h
        | some ka =>
          cases e3 : trSs c b with
          | none => rw [e1, e2, e3] at h; cases h
          | some ya =>
            rw [e1, e2, e3] at h
            cases h
            exact gs_for hp I.calm (it_ok (snd it).1 (snd it).2 I tk e2) (tg_ok t I e1).1 (sndSs b c X W ya I tk hp e3) (it_fold e2 X.env)
  | .Return (some e) pos => fun c X W x I tk hp h => by
    unfold trS at h
    cases e1 : tr c e with
    | none => rw [e1] at h; cases h
    | some y => rw [e1] at h; cases h; exact gs_ret ((snd e).1 c X W y I tk e1).1
  | .Return none pos => fun c X W x I tk hp h => by
    unfold trS at h
    cases h
    exact gs_retN
  | .Expr e pos => fun c X W x I tk hp h => by
    unfold trS trExp at h
    split at h
    · cases h
      rename_i hd
      refine gs_pass ?_
      cases e with
      | Constant k j p =>
        cases k with
        | str s => exact ps_doc
        | _ => cases hd
      | _ => cases hd
    · split at h
      · cases h
      · rename_i hc
        have hc : isComp e = false := by cases hq : isComp e with
          | true => exact absurd hq hc
          | false => rfl
        cases e1 : tr c e with
        | none => rw [e1] at h; cases h
        | some y => rw [e1] at h; cases h; exact gs_exp ((snd e).1 c X W y I tk e1).1 (drop_false hc)
  | .Pass pos => fun c X W x I tk hp h => by
    unfold trS at h
    cases h
    exact gs_pass ps_pass
  | .Break pos => fun c X W x I tk hp h => by
    unfold trS at h
    cases h
    exact gs_brk
  | .Continue pos => fun c X W x I tk hp h => by
    unfold trS at h
    cases h
    exact gs_cnt
  | .FunctionDef .. => sndS_none fun _ => rfl
  | .AsyncFunctionDef .. => sndS_none fun _ => rfl
  | .ClassDef .. => sndS_none fun _ => rfl
  | .Delete .. => sndS_none fun _ => rfl
  | .TypeAlias .. => sndS_none fun _ => rfl
  | .AnnAssign .. => sndS_none fun _ => rfl
  | .AsyncFor .. => sndS_none fun _ => rfl
  | .With .. => sndS_none fun _ => rfl
  | .AsyncWith .. => sndS_none fun _ => rfl
  | .Match .. => sndS_none fun _ => rfl
  | .Raise .. => sndS_none fun _ => rfl
  | .Try .. => sndS_none fun _ => rfl
  | .TryStar .. => sndS_none fun _ => rfl
  | .Assert .. => sndS_none fun _ => rfl
  | .Import .. => sndS_none fun _ => rfl
  | .ImportFrom .. => sndS_none fun _ => rfl
  | .Global .. => sndS_none fun _ => rfl
  | .Nonlocal .. => sndS_none fun _ => rfl
theorem sndSs : ∀ sts : List Stmt, SndSs P G w sts
  | [] => fun c X W x I tk hp h => by
    unfold trSs at h
    cases h
    exact gss_nil
  | st :: rest => fun c X W x I tk hp h => by
    unfold trSs at h
    cases e1 : trS c st with
    | none => rw [e1] at h; cases h
    | some y =>
      cases e2 : trSs c rest with
      | none => rw [e1, e2] at h; cases h
      | some ys =>
        rw [e1, e2] at h
        cases h
        exact gss_cons (sndS st c X W y I tk hp e1) (sndSs rest c X W ys I tk hp e2)
end
end
end PI
/-! PI12: defs. -/
namespace PI
open PySem PySem.Spec L2 PyProof.Rows
/-! ### statements raise nothing by themselves -/
def NX {α : Type} (m : M α) : Prop := ∀ s e s', m.run s ≠ .exc e s'
theorem nx_pure {α : Type} (a : α) : NX (M.pure a) := fun s e s' h => by cases h
theorem nx_bad {α : Type} : NX (M.bad : M α) := fun s e s' h => by cases h
theorem nx_bind {α β : Type} {m : M α} {f : α → M β} (h : NX m) (hf : ∀ a, NX (f a)) : NX (M.bind m f) := fun s e s' q => by
  rw [run_mbind] at q
  cases e1 : m.run s with
  | bad => rw [e1] at q; cases q
  | ok a s1 => rw [e1] at q; exact hf a s1 e s' q
  | exc x s1 => exact h s x s1 e1
theorem nx_try {α : Type} {m : M α} : NX (tryM m) := fun s e s' q => by
  have e0 : (tryM m).run s = (match m.run s with
    | .ok a s' => .ok (.ok a) s'
    | .exc e s' => .ok (.error e) s'
    | .bad => .bad) := rfl
  rw [e0] at q
  cases e1 : m.run s with
  | bad => rw [e1] at q; cases q
  | ok a s1 => rw [e1] at q; cases q
  | exc x s1 => rw [e1] at q; cases q
theorem nx_lift {α : Type} {m : M α} {env : Env} {k : α → M (Env × Fl)} (h : ∀ a, NX (k a)) : NX (lift m env k) := nx_bind nx_try fun r => by
  cases r with
  | ok a => exact h a
  | error e => exact nx_pure _
theorem nx_iff {p : Prop} [Decidable p] {α : Type} {m : M α} (h : NX m) : NX (M.iff p m) := by
  by_cases hp : p
  · rw [M.iff_pos hp]; exact h
  · rw [M.iff_neg hp]; exact nx_bad
theorem nx_get {n : Nat} : NX (get n) := fun s e s' q => by
  have e0 : (get n).run s = (match s.cells[n]? with
    | some c => .ok c s
    | none => .bad) := rfl
  rw [e0] at q
  cases e1 : s.cells[n]? with
  | none => rw [e1] at q; cases q
  | some c => rw [e1] at q; cases q
theorem nx_stays {xs : List Vl} {src : Option Nat} : NX (stays xs src) := by
  cases src with
  | none => exact nx_pure _
  | some n =>
    refine nx_bind nx_get fun c => ?_
    cases c with
    | lst ys => exact nx_iff (nx_pure _)
    | rol ys => exact nx_iff (nx_pure _)
    | _ => exact nx_bad
mutual
theorem nx_bindTg : ∀ (t : Tg) (v : Vl) (env : Env), NX (bindTg t v env)
  | .nm i, v, env => by rw [bindTg]; exact nx_pure _
  | .tp ts, v, env => by
    cases v with
    | ref n => exact nx_bad
    | dat d =>
      cases d with
      | tup ds => exact nx_iff (nx_bindTgs ts ds env)
      | _ => exact nx_bad
theorem nx_bindTgs : ∀ (ts : List Tg) (ds : List D) (env : Env), NX (bindTgs ts ds env)
  | [], ds, env => by
    cases ds with
    | nil => rw [bindTgs]; exact nx_pure _
    | cons d ds => exact nx_bad
  | t :: ts, ds, env => by
    cases ds with
    | nil => exact nx_bad
    | cons d ds => rw [bindTgs]; exact nx_bind (nx_bindTg t _ env) fun env' => nx_bindTgs ts ds env'
end
theorem nx_for {xs : List Vl} {src : Option Nat} {f : Vl → Env → M (Env × Fl)} (h : ∀ v env, NX (f v env)) : ∀ (vs : List Vl) (env : Env), NX (forGo xs src f vs env)
  | [], env => by rw [forGo]; exact nx_bind nx_stays fun _ => nx_pure _
  | v :: vs, env => by
    rw [forGo]
    refine nx_bind nx_stays fun _ => nx_bind (h v env) fun r => ?_
    obtain ⟨env', fl⟩ := r
    cases fl with
    | nx => exact nx_for h vs env'
    | ct => exact nx_for h vs env'
    | bk => exact nx_pure _
    | rt v => exact nx_pure _
    | rs e => exact nx_pure _
theorem nx_wh {t : Env → M Bool} {b : Env → M (Env × Fl)} {env : Env} : NX (wh t b env) := fun s e s' q => by
  have hw : (wh t b env).run s = (open Classical in if h : ∃ n x' s', (whN t b n env).run s = .ok (some x') s' then .ok (choose (choose_spec h)) (choose (choose_spec (choose_spec h))) else .bad) := rfl
  rw [hw] at q
  by_cases hh : ∃ n x' s', (whN t b n env).run s = .ok (some x') s'
  · rw [dif_pos hh] at q; cases q
  · rw [dif_neg hh] at q; cases q
section
variable {P : Prg} {G : Nat → List Vl → M Vl}
mutual
theorem nx_exec : ∀ (st : Sm) (env : Env), NX (execS P G st env)
  | .asg t e, env => by rw [execS]; exact nx_lift fun v => nx_bind (nx_bindTg t v env) fun _ => nx_pure _
  | .par is es, env => by rw [execS]; exact nx_lift fun vs => nx_iff (nx_pure _)
  | .aug i o e, env => by rw [execS]; exact nx_lift fun v => nx_pure _
  | .iff c a b, env => by
    rw [execS]
    exact nx_lift fun k => by
      cases k with
      | true => exact nx_execs a env
      | false => exact nx_execs b env
  | .whl c b, env => by rw [execS]; exact nx_wh
  | .fr t k args b, env => by rw [execS]; exact nx_lift fun p => nx_for (fun v env => nx_bind (nx_bindTg t v env) fun env' => nx_execs b env') p.1 env
  | .ret e, env => by rw [execS]; exact nx_lift fun v => nx_pure _
  | .exp e, env => by rw [execS]; exact nx_lift fun v => nx_pure _
  | .pass, env => by rw [execS]; exact nx_pure _
  | .brk, env => by rw [execS]; exact nx_pure _
  | .cnt, env => by rw [execS]; exact nx_pure _
theorem nx_execs : ∀ (sts : List Sm) (env : Env), NX (execSs P G sts env)
  | [], env => by rw [execSs]; exact nx_pure _
  | st :: rest, env => by
    rw [execSs]
    refine nx_bind (nx_exec st env) fun r => ?_
    obtain ⟨env', fl⟩ := r
    cases fl with
    | nx => exact nx_execs rest env'
    | ct => exact nx_pure _
    | bk => exact nx_pure _
    | rt v => exact nx_pure _
    | rs e => exact nx_pure _
end
end
theorem ResG.nx {α : Type} {m : M α} {w : Wd} {ι : List Addr} {H : Hp} {s : S} {W W' : Value → Option Addr → Hp → Prop} {C : α → S → List Addr → Hp → Prop} (hn : NX m) (h : ResG w ι H W C (m.run s)) : ResG w ι H W' C (m.run s) := by
  cases e : m.run s with
  | bad => rw [e] at h; exact h
  | ok a s1 => rw [e] at h; exact h
  | exc x s1 => exact absurd e (hn s x s1)
/-! ### a def of the text -/
/-- what the text's names are, for all defs -/
structure Tx where
  fns : List Str
  cls : List Str
  meths : List Str
  glb : List (Str × D)
def Tx.tc (t : Tx) (N : List Str) (sc : Scope) : Tc := ⟨N, sc, sc, t.fns, t.cls, t.meths, t.glb⟩
/-- a def: its function stands at f -/
structure FnE (t : Tx) (w : Wd) (fns : List FnI) (i : Nat) (f : Addr) (fd : FuncData) (ps : List Str) : Prop where
  ex : ∃ (F : FnI) (N : List Str) (x qual : Str) (params : Arguments) (body : List Stmt) (scope : Scope), fns[i]? = some F ∧ FunD w.K x qual params body scope [] [] f fd ∧ FnScope N ps scope ∧ F.np = ps.length ∧ F.nl = N.length ∧ trSs (t.tc N scope) body = some F.body
  bd : Binds w.K fd ps []
structure ModOk (t : Tx) (w : Wd) (mg : Str → Option Value) (fns : List FnI) : Prop where
  glb : ∀ x d, t.glb.lookup x = some d → ∃ v u, mg x = some u ∧ RelV v u ∧ ∀ H, Dp w.K H v d.py
  blt : ∀ x ∈ bltNames, mg x = none
  fn : ∀ i x, idxOf t.fns x = some i → ∃ f fd ps, FnE t w fns i f fd ps ∧ mg x = some (.ref f)
section
variable {P : Prg} {t : Tx} {w : Wd} {mg : Str → Option Value} {fns : List FnI} {prog : Program} {wd : World} {base : Heap}
theorem callF_succ {n i : Nat} {F : FnI} {vs : List Vl} (h : fns[i]? = some F) : callF P fns (n + 1) i vs = M.iff (vs.length = F.np) (frame (M.bind (execSs P (callF P fns n) F.body (vs.map some ++ List.replicate (F.nl - F.np) none)) ended)) := by
  rw [callF, h]
theorem start_rel {K : PySem.W.Frag} {ι : List Addr} {H : Hp} {vs : List V} {ds : List Vl} {N : List Str} {m : Nat} (r : RepVs K ι H vs ds) (hm : m = N.length - ds.length) (hl : ds.length ≤ N.length) : EnvRel K ι H (ds.map some ++ List.replicate m none) (L2.start N vs) := by
  have hlen := r.length
  unfold L2.start
  refine ⟨by simp [hm]; omega, fun i v e => ?_⟩
  by_cases hi : i < ds.length
  · rw [List.getElem?_append_left (by simpa using hi), List.getElem?_map] at e
    cases e1 : ds[i]? with
    | none => rw [e1] at e; cases e
    | some d =>
      rw [e1] at e
      cases e
      obtain ⟨u, h1, h2⟩ := pr_get r e1
      refine ⟨u, ?_, h2⟩
      rw [List.getElem?_append_left (by simp; omega), List.getElem?_map, h1]
      rfl
  · rw [List.getElem?_append_right (by simpa using Nat.le_of_not_lt hi), List.getElem?_replicate] at e
    split at e <;> cases e
theorem fn_ok (M0 : ModOk t w mg fns) : ∀ (n i : Nat) (f : Addr) (fd : FuncData) (ps : List Str), FnE t w fns i f fd ps → FnOk prog wd w.K mg base (L2.CX prog wd) (2 * n) f fd ps (spF w (callF P fns n i))
  | 0, i, f, fd, ps, E => by
    refine ⟨fun vs H Q E h => ?_, fun A outer s H args us vs Q E hr he hb hv h => ?_⟩
    · obtain ⟨ι, s, ds, _, _, h⟩ := h
      exact absurd h id
    · obtain ⟨ι, s, ds, _, _, h⟩ := h
      exact absurd h id
  | n + 1, i, f, fd, ps, E => by
    obtain ⟨⟨F, N, x, qual, params, body, scope, hF, fD, S, hnp, hnl, htr⟩, bd⟩ := E
    have hps : ps.length ≤ N.length := by
      have := congrArg List.length S.pre
      rw [List.length_take] at this
      omega
    refine fD.ok (k := 2 * n + 1) S (fun vs H Q E h => ?_) (fun cdv A outer s H vs Q E hr h => ?_)
    · obtain ⟨ι, s, ds, R, r, h⟩ := h
      rw [callF_succ hF] at h
      obtain ⟨hl, _⟩ := res_iff h
      rw [r.length, hl, hnp]
    · obtain ⟨ι, s1, ds, R, r, h⟩ := h
      rw [callF_succ hF] at h
      obtain ⟨hl, h⟩ := res_iff h
      have I : XOk P (callF P fns n) w (t.tc N scope) (cxOf (L2.CX prog wd) prog wd w.K mg base N qual scope f cdv A outer s H E) := by
        refine ⟨rfl, S.nd, rfl, fun _ _ => rfl, rfl, rfl, ?_, M0.glb, M0.blt, fun j y e => ?_⟩
        · have := hr.un
          show (A.deeper _).units + 65 < cLine
          omega
        · obtain ⟨fj, fdj, psj, Ej, gj⟩ := M0.fn j y e
          have Fj := fn_ok M0 n j fj fdj psj Ej
          obtain ⟨⟨F', N', x', qual', params', body', scope', hF', fD', _⟩, bd'⟩ := Ej
          exact ⟨fj, 2 * n, fdj, psj, ⟨Fj, hr.mono (Nat.le_succ _), gj, fD'.kp, bd'⟩⟩
      have tk : Takes (cxOf (L2.CX prog wd) prog wd w.K mg base N qual scope f cdv A outer s H E) (fun c d _ H' => E c d H') := takes_of rfl rfl rfl rfl
      have po : PassesOwn (model prog wd) (cxOf (L2.CX prog wd) prog wd w.K mg base N qual scope f cdv A outer s H E).A (cxOf (L2.CX prog wd) prog wd w.K mg base N qual scope f cdv A outer s H E).env (cxOf (L2.CX prog wd) prog wd w.K mg base N qual scope f cdv A outer s H E).xe := passes_of rfl
      refine ⟨_, sndSs body (t.tc N scope) _ (fun c d _ H' => E c d H') F.body I tk po htr, ?_⟩
      have h1 := ResG.bind (ResG.frame R h)
      refine ⟨ι, _, ⟨s1.cells, []⟩, R, start_rel r (by rw [hnl, hnp, hl, hnp]) (by omega), ResG.nx (nx_execs F.body _) (h1.mono fun q s2 ι2 H2 R2 p2 q2 => ?_)⟩
      obtain ⟨env, fl⟩ := q
      cases fl with
      | nx => exact fun σ' er => q2 ι2 H2 R2 (Post.refl ι2 H2) .non (repv_non.mpr rfl)
      | bk => exact absurd q2 id
      | ct => exact absurd q2 id
      | rt v => exact fun u ru => q2 ι2 H2 R2 (Post.refl ι2 H2) u ru
      | rs e => exact fun σ' c d er xr => q2 ι2 H2 c d R2 (Post.refl ι2 H2) xr
end
end PI
/-! PI13: a law's end. -/
namespace PI
open PySem PySem.Spec L2 PyProof.Rows
/-- the interpreter's answer to a law -/
def Says (P : Prg) (fns : List FnI) (n i : Nat) : Prop := ∀ ns : List Int, ns.length ≤ 63 → ∃ s', (callF P fns n i [.ref 0]).run ⟨[.rol ns], []⟩ = .ok (.dat (.bl true)) s'
theorem law_at {l : PySem.W.OpenLaw} {wd : World} {w : Wd} {t : Tx} {P : Prg} {fns : List FnI} {n i : Nat} {mg : Str → Option Value} {fa : Addr} {h : Heap} {fd : FuncData} {x : Str} (M0 : ModOk t w mg fns) (E : FnE t w fns i fa fd [x])
    (hb : ∀ (s : Shared) (u : Value), BindsTo s fd ⟨[u], []⟩ [(x, u)]) (claim : Says P fns n i) : LamX.LawAtS l wd w.K (L2.CX l.prog wd) (2 * n) 63 x mg fa h := by
  refine ⟨fd, [], spF w (callF P fns n i), fun p hp => absurd hp List.not_mem_nil, fun p hp => absurd hp List.not_mem_nil, fun p hp => absurd hp List.not_mem_nil, hb, fun H a ns hl _ _ hS => ?_, fun base _ _ _ => fn_ok M0 n i fa fd [x] E⟩
  obtain ⟨s', e⟩ := claim ns hl
  have R : w.R [a] ⟨[.rol ns], []⟩ H := by
    refine ⟨rfl, fun p q b hpq e1 e2 => ?_, fun p b c e1 e2 => ?_⟩
    · have h1 := (List.getElem?_eq_some_iff.mp e1).1
      have h2 := (List.getElem?_eq_some_iff.mp e2).1
      simp at h1 h2
      omega
    · have h1 := (List.getElem?_eq_some_iff.mp e1).1
      simp at h1
      subst h1
      simp at e1 e2
      subst e1 e2
      exact hS
  refine ⟨[a], ⟨[.rol ns], []⟩, [.ref 0], R, .cons ⟨a, rfl, rfl⟩ .nil, ?_⟩
  rw [e]
  exact fun ι' H' _ _ u r => repv_bl.mp r
theorem no_exc {P : Program} {w : World} {H : Hp} {s : Shared} {e : Value} {s' : Shared} (h : L2.CX P w [] H s (fun _ _ _ => False) e s') : False := by
  obtain ⟨_, _, _, _, _, _, _, _, _, _, _, _, z⟩ := h
  exact z
end PI
/-! PIw: how a run of the interpreter is shown to end well. -/
namespace PI
open PySem
/-- m ends at s, with Q -/
def Ok {α : Type} (m : M α) (s : S) (Q : α → S → Prop) : Prop := ∃ a s', m.run s = .ok a s' ∧ Q a s'
def Okr {α : Type} (r : R α) (Q : α → S → Prop) : Prop := ∃ a s', r = .ok a s' ∧ Q a s'
section
variable {α β : Type} {s : S} {Q : α → S → Prop}
theorem Ok.mono {m : M α} {Q' : α → S → Prop} (h : Ok m s Q) (f : ∀ a s', Q a s' → Q' a s') : Ok m s Q' := by
  obtain ⟨a, s', e, q⟩ := h
  exact ⟨a, s', e, f a s' q⟩
theorem ok_pure {a : α} : Ok (M.pure a) s Q ↔ Q a s := ⟨fun ⟨_, _, e, q⟩ => (by cases e; exact q), fun q => ⟨a, s, rfl, q⟩⟩
theorem ok_bind {m : M β} {f : β → M α} : Ok (M.bind m f) s Q ↔ Ok m s fun a s' => Ok (f a) s' Q := by
  constructor
  · rintro ⟨a, s', e, q⟩
    rw [run_mbind] at e
    cases e1 : m.run s with
    | bad => rw [e1] at e; cases e
    | exc x y => rw [e1] at e; cases e
    | ok b s1 => rw [e1] at e; exact ⟨b, s1, e1, a, s', e, q⟩
  · rintro ⟨b, s1, e1, a, s', e, q⟩
    exact ⟨a, s', by rw [run_mbind, e1]; exact e, q⟩
theorem bind_eq (m : M β) (f : β → M α) : (m >>= f) = M.bind m f := rfl
theorem pure_eq (a : α) : (pure a : M α) = M.pure a := rfl
theorem ok_iff {p : Prop} [Decidable p] {m : M α} : Ok (M.iff p m) s Q ↔ p ∧ Ok m s Q := by
  by_cases h : p
  · rw [M.iff_pos h]; exact ⟨fun q => ⟨h, q⟩, fun q => q.2⟩
  · rw [M.iff_neg h]
    exact ⟨fun ⟨_, _, e, _⟩ => (by cases e), fun q => absurd q.1 h⟩
theorem ok_bad : Ok (M.bad : M α) s Q ↔ False := ⟨fun ⟨_, _, e, _⟩ => (by cases e), False.elim⟩
theorem ok_of {o : Option α} : Ok (M.of o) s Q ↔ ∃ a, o = some a ∧ Q a s := by
  cases o with
  | none => exact ⟨fun ⟨_, _, e, _⟩ => (by cases e), fun ⟨_, e, _⟩ => (by cases e)⟩
  | some a => exact ⟨fun ⟨_, _, e, q⟩ => (by cases e; exact ⟨a, rfl, q⟩), fun ⟨_, e, q⟩ => by cases e; exact ⟨a, s, rfl, q⟩⟩
theorem ok_of_some {a : α} : Ok (M.of (some a)) s Q ↔ Q a s := ok_pure
theorem ok_get {n : Nat} {Q : Cell → S → Prop} : Ok (get n) s Q ↔ ∃ c, s.cells[n]? = some c ∧ Q c s := by
  constructor
  · rintro ⟨a, s', e, q⟩
    have e0 : (get n).run s = (match s.cells[n]? with
      | some c => .ok c s
      | none => .bad) := rfl
    rw [e0] at e
    cases e1 : s.cells[n]? with
    | none => rw [e1] at e; cases e
    | some c => rw [e1] at e; cases e; exact ⟨_, rfl, q⟩
  · rintro ⟨c, e, q⟩
    exact ⟨c, s, run_get e, q⟩
/-- a cell that is known -/
theorem ok_get_of {n : Nat} {c : Cell} {Q : Cell → S → Prop} (h : s.cells[n]? = some c) : Ok (get n) s Q ↔ Q c s := by
  rw [ok_get]
  exact ⟨fun ⟨c', e, q⟩ => (by rw [h] at e; cases e; exact q), fun q => ⟨c, h, q⟩⟩
theorem ok_alloc {c : Cell} {Q : Vl → S → Prop} : Ok (alloc c) s Q ↔ Q (.ref s.cells.length) ⟨s.cells ++ [c], s.log⟩ := ⟨fun ⟨_, _, e, q⟩ => (by cases e; exact q), fun q => ⟨_, _, rfl, q⟩⟩
theorem ok_upd_of {n : Nat} {U : Upd α} {c c' : Cell} {x : α} (h : s.cells[n]? = some c) (h2 : U.f c = some (c', x)) : Ok (updC n U) s Q ↔ Q x ⟨s.cells.set n c', U.extra.map (fun r => (n, r)) ++ s.log⟩ := by
  constructor
  · rintro ⟨a, s', e, q⟩
    rw [run_upd h h2] at e
    cases e
    exact q
  · exact fun q => ⟨_, _, run_upd h h2, q⟩
theorem ok_lift {m : M α} {env : Env} {k : α → M (Env × Fl)} {Q : Env × Fl → S → Prop} (h : Ok m s fun a s' => Ok (k a) s' Q) : Ok (lift m env k) s Q := by
  obtain ⟨a, s1, e1, b, s2, e2, q⟩ := h
  refine ⟨b, s2, ?_, q⟩
  unfold lift
  rw [run_mbind]
  have e : (tryM m).run s = .ok (.ok a) s1 := by
    show (match m.run s with
      | .ok a s' => R.ok (Except.ok a) s'
      | .exc e s' => .ok (.error e) s'
      | .bad => .bad) = _
    rw [e1]
  rw [e]
  exact e2
theorem ok_noX {m : M α} : Ok (noX m) s Q ↔ Ok m s Q := by
  have e0 : (noX m).run s = (match m.run s with
    | .ok a s' => .ok a s'
    | _ => .bad) := rfl
  unfold Ok
  rw [e0]
  cases e : m.run s with
  | bad => exact ⟨fun ⟨_, _, e, _⟩ => (by cases e), fun ⟨_, _, e, _⟩ => by cases e⟩
  | exc a b => exact ⟨fun ⟨_, _, e, _⟩ => (by cases e), fun ⟨_, _, e, _⟩ => by cases e⟩
  | ok a b => exact Iff.rfl
theorem ok_frame {m : M Vl} {Q : Vl → S → Prop} (h : Ok m ⟨s.cells, []⟩ fun v s' => Okr (PI.fin s v s') Q) : Ok (frame m) s Q := by
  obtain ⟨v, s1, e, b, s2, e2, q⟩ := h
  refine ⟨b, s2, ?_, q⟩
  rw [run_frame, e]
  exact e2
/-- the part's leavings: new cells only, no reference written -/
theorem fin_dat {d : D} {ex : List Cell} : PI.fin s (Vl.dat d) ⟨s.cells ++ ex, []⟩ = PI.R.ok (Vl.dat d) s := by
  show (match logClear s.cells.length [] with
  | true => PI.R.ok (Vl.dat d) ⟨(s.cells ++ ex).take s.cells.length, mrg s.cells.length s.log []⟩
  | false => .ok (.dat d) ⟨s.cells ++ ex, [] ++ s.log⟩) = _
  rw [List.take_left]
  rfl
theorem fin_dat0 {d : D} : PI.fin s (Vl.dat d) ⟨s.cells, []⟩ = PI.R.ok (Vl.dat d) s := by
  have := fin_dat (s := s) (d := d) (ex := [])
  rw [List.append_nil] at this
  exact this
theorem okr_dat {d : D} {ex : List Cell} {Q : Vl → S → Prop} : Okr (PI.fin s (Vl.dat d) ⟨s.cells ++ ex, []⟩) Q ↔ Q (.dat d) s := by
  rw [fin_dat]
  exact ⟨fun ⟨_, _, e, q⟩ => (by cases e; exact q), fun q => ⟨_, _, rfl, q⟩⟩
theorem okr_dat0 {d : D} {Q : Vl → S → Prop} : Okr (PI.fin s (Vl.dat d) ⟨s.cells, []⟩) Q ↔ Q (.dat d) s := by
  rw [fin_dat0]
  exact ⟨fun ⟨_, _, e, q⟩ => (by cases e; exact q), fun q => ⟨_, _, rfl, q⟩⟩
theorem okr_datE {d : D} {cs : List Cell} {l : List (Nat × Nat)} {Q : Vl → S → Prop} : Okr (PI.fin ⟨cs, l⟩ (Vl.dat d) ⟨cs, []⟩) Q ↔ Q (.dat d) ⟨cs, l⟩ := okr_dat0 (s := ⟨cs, l⟩)
theorem okr_datX {d : D} {cs ex : List Cell} {l : List (Nat × Nat)} {Q : Vl → S → Prop} : Okr (PI.fin ⟨cs, l⟩ (Vl.dat d) ⟨cs ++ ex, []⟩) Q ↔ Q (.dat d) ⟨cs, l⟩ := okr_dat (s := ⟨cs, l⟩)
/-- old cells were changed, no reference came in -/
theorem okr_all {d : D} {cs : List Cell} {Q : Vl → S → Prop} (h : cs.length = s.cells.length) : Okr (PI.fin s (Vl.dat d) ⟨cs, []⟩) Q ↔ Q (.dat d) ⟨cs, s.log⟩ := by
  have e : PI.fin s (Vl.dat d) ⟨cs, []⟩ = PI.R.ok (Vl.dat d) ⟨cs, s.log⟩ := by
    show (match logClear s.cells.length [] with
    | true => PI.R.ok (Vl.dat d) ⟨cs.take s.cells.length, mrg s.cells.length s.log []⟩
    | false => .ok (.dat d) ⟨cs, [] ++ s.log⟩) = _
    rw [List.take_of_length_le (by omega)]
    rfl
  rw [e]
  exact ⟨fun ⟨_, _, e, q⟩ => (by cases e; exact q), fun q => ⟨_, _, rfl, q⟩⟩
/-- an old cell comes out -/
theorem okr_old {r : Nat} {ex : List Cell} {Q : Vl → S → Prop} (h : r < s.cells.length) : Okr (PI.fin s (Vl.ref r) ⟨s.cells ++ ex, []⟩) Q ↔ Q (.ref r) s := by
  have e : PI.fin s (Vl.ref r) ⟨s.cells ++ ex, []⟩ = PI.R.ok (Vl.ref r) s := by
    show (match Nat.blt r s.cells.length with
      | true => PI.R.ok (Vl.ref r) ⟨(s.cells ++ ex).take s.cells.length, mrg s.cells.length s.log []⟩
      | false => _) = _
    rw [show Nat.blt r s.cells.length = true from Nat.ble_eq_true_of_le h, List.take_left]
    rfl
  rw [e]
  exact ⟨fun ⟨_, _, e, q⟩ => (by cases e; exact q), fun q => ⟨_, _, rfl, q⟩⟩
/-- a new cell comes out, it alone -/
theorem okr_new {k : Nat} {c : Cell} {ex : List Cell} {Q : Vl → S → Prop} (h : ex[k]? = some c) (hc : (c.refs.all fun q => Nat.blt q s.cells.length) = true) : Okr (PI.fin s (Vl.ref (s.cells.length + k)) ⟨s.cells ++ ex, []⟩) Q ↔ Q (.ref s.cells.length) ⟨s.cells ++ [c], s.log⟩ := by
  have hb : Nat.blt (s.cells.length + k) s.cells.length = false := by
    cases e : Nat.blt (s.cells.length + k) s.cells.length with
    | false => rfl
    | true => exact absurd (Nat.le_of_ble_eq_true e) (by omega)
  have hg : (s.cells ++ ex)[s.cells.length + k]? = some c := by
    rw [List.getElem?_append_right (by omega), Nat.add_sub_cancel_left]
    exact h
  have e : PI.fin s (Vl.ref (s.cells.length + k)) ⟨s.cells ++ ex, []⟩ = PI.R.ok (Vl.ref s.cells.length) ⟨s.cells ++ [c], s.log⟩ := by
    show (match Nat.blt (s.cells.length + k) s.cells.length with
      | true => PI.R.ok (Vl.ref (s.cells.length + k)) ⟨(s.cells ++ ex).take s.cells.length, mrg s.cells.length s.log []⟩
      | false => match (s.cells ++ ex)[s.cells.length + k]? with
        | some c => match c.refs.all fun q => Nat.blt q s.cells.length with
          | true => .ok (.ref s.cells.length) ⟨(s.cells ++ ex).take s.cells.length ++ [c], mrg s.cells.length s.log []⟩
          | false => .ok (.ref (s.cells.length + k)) ⟨s.cells ++ ex, [] ++ s.log⟩
        | none => .bad) = _
    rw [hb, hg]
    simp only [hc, List.take_left]
    rfl
  rw [e]
  exact ⟨fun ⟨_, _, e, q⟩ => (by cases e; exact q), fun q => ⟨_, _, rfl, q⟩⟩
theorem okr_new0 {c : Cell} {ex : List Cell} {Q : Vl → S → Prop} (hc : (c.refs.all fun q => Nat.blt q s.cells.length) = true) : Okr (PI.fin s (Vl.ref s.cells.length) ⟨s.cells ++ c :: ex, []⟩) Q ↔ Q (.ref s.cells.length) ⟨s.cells ++ [c], s.log⟩ :=
  okr_new (k := 0) (c := c) (ex := c :: ex) rfl hc
end
/-! ### loops -/
/-- what a turn's end leads to -/
def Nxt (I : Env → S → Prop) (Q : Env × Fl → S → Prop) (r : Env × Fl) (s : S) : Prop := match r.2 with
  | .nx => I r.1 s
  | .ct => I r.1 s
  | .bk => Q (r.1, .nx) s
  | fl => Q (r.1, fl) s
theorem ok_stays {xs : List Vl} {src : Option Nat} {s : S} {Q : Unit → S → Prop} (h : match src with
    | none => True
    | some n => s.cells[n]? = some (.lst xs) ∨ ∃ ns, s.cells[n]? = some (.rol ns) ∧ xs = intsV ns) (q : Q () s) : Ok (stays xs src) s Q := by
  cases src with
  | none => exact ⟨(), s, rfl, q⟩
  | some n =>
    refine ok_bind.mpr ?_
    rcases h with h | ⟨ns, h, e⟩
    · rw [ok_get_of h]; exact ok_iff.mpr ⟨rfl, ok_pure.mpr q⟩
    · rw [ok_get_of h]; exact ok_iff.mpr ⟨e.symm, ok_pure.mpr q⟩
/-- a for over items that need not stay (a range, a tuple) -/
theorem ok_for {items : List Vl} {f : Vl → Env → M (Env × Fl)} {Q : Env × Fl → S → Prop} (I : Nat → Env → S → Prop)
    (step : ∀ (i : Nat) (v : Vl) (env : Env) (s : S), items[i]? = some v → I i env s → Ok (f v env) s (Nxt (I (i + 1)) Q)) (hend : ∀ env s, I items.length env s → Q (env, .nx) s) {env : Env} {s : S} (h0 : I 0 env s) : Ok (forGo items none f items env) s Q := by
  have key : ∀ (k i : Nat) (env : Env) (s : S), i + k = items.length → I i env s → Ok (forGo items none f (items.drop i) env) s Q := by
    intro k
    induction k with
    | zero =>
      intro i env s hi h
      have e : i = items.length := by omega
      subst e
      rw [List.drop_length, forGo]
      exact ok_bind.mpr (ok_stays trivial (ok_pure.mpr (hend env s h)))
    | succ k ih =>
      intro i env s hi h
      have hl : i < items.length := by omega
      rw [List.drop_eq_getElem_cons hl, forGo]
      refine ok_bind.mpr (ok_stays trivial (ok_bind.mpr ((step i _ env s (List.getElem?_eq_getElem hl) h).mono fun r s' q => ?_)))
      obtain ⟨env', fl⟩ := r
      cases fl with
      | nx => exact ih (i + 1) env' s' (by omega) q
      | ct => exact ih (i + 1) env' s' (by omega) q
      | bk => exact ok_pure.mpr q
      | rt v => exact ok_pure.mpr q
      | rs e => exact ok_pure.mpr q
  exact key items.length 0 env s (by omega) h0
/-- .. over a list of the store, which stays -/
theorem ok_forL {items : List Vl} {n : Nat} {f : Vl → Env → M (Env × Fl)} {Q : Env × Fl → S → Prop} (I : Nat → Env → S → Prop)
    (stay : ∀ (i : Nat) (env : Env) (s : S), I i env s → s.cells[n]? = some (.lst items) ∨ ∃ ns, s.cells[n]? = some (.rol ns) ∧ items = intsV ns)
    (step : ∀ (i : Nat) (v : Vl) (env : Env) (s : S), items[i]? = some v → I i env s → Ok (f v env) s (Nxt (I (i + 1)) Q)) (hend : ∀ env s, I items.length env s → Q (env, .nx) s) {env : Env} {s : S} (h0 : I 0 env s) : Ok (forGo items (some n) f items env) s Q := by
  have key : ∀ (k i : Nat) (env : Env) (s : S), i + k = items.length → I i env s → Ok (forGo items (some n) f (items.drop i) env) s Q := by
    intro k
    induction k with
    | zero =>
      intro i env s hi h
      have e : i = items.length := by omega
      subst e
      rw [List.drop_length, forGo]
      exact ok_bind.mpr (ok_stays (stay _ env s h) (ok_pure.mpr (hend env s h)))
    | succ k ih =>
      intro i env s hi h
      have hl : i < items.length := by omega
      rw [List.drop_eq_getElem_cons hl, forGo]
      refine ok_bind.mpr (ok_stays (stay _ env s h) (ok_bind.mpr ((step i _ env s (List.getElem?_eq_getElem hl) h).mono fun r s' q => ?_)))
      obtain ⟨env', fl⟩ := r
      cases fl with
      | nx => exact ih (i + 1) env' s' (by omega) q
      | ct => exact ih (i + 1) env' s' (by omega) q
      | bk => exact ok_pure.mpr q
      | rt v => exact ok_pure.mpr q
      | rs e => exact ok_pure.mpr q
  exact key items.length 0 env s (by omega) h0
/-- a range's items -/
theorem rng_get {n i : Nat} {v : Vl} (h : ((List.range n).map fun (i : Nat) => Vl.dat (.int i))[i]? = some v) : i < n ∧ v = .dat (.int i) := by
  rw [List.getElem?_map] at h
  by_cases hi : i < n
  · rw [List.getElem?_range hi] at h
    cases h
    exact ⟨hi, rfl⟩
  · rw [List.getElem?_eq_none (by simpa using hi)] at h
    cases h
/-- a comprehension -/
theorem ok_lc {xs : List Vl} {src : Option Nat} {f : Vl → M (Option Vl)} {o : Vl} {Q : Unit → S → Prop} (I : Nat → S → Prop)
    (stay : ∀ (i : Nat) (s : S), I i s → match src with
      | none => True
      | some n => s.cells[n]? = some (.lst xs) ∨ ∃ ns, s.cells[n]? = some (.rol ns) ∧ xs = intsV ns)
    (step : ∀ (i : Nat) (v : Vl) (s : S), xs[i]? = some v → I i s → Ok (f v) s fun y s' => Ok (appTo o y) s' fun _ s2 => I (i + 1) s2) (hend : ∀ s, I xs.length s → Q () s) {s : S} (h0 : I 0 s) : Ok (lcGo xs src f o xs) s Q := by
  have key : ∀ (k i : Nat) (s : S), i + k = xs.length → I i s → Ok (lcGo xs src f o (xs.drop i)) s Q := by
    intro k
    induction k with
    | zero =>
      intro i s hi h
      have e : i = xs.length := by omega
      subst e
      rw [List.drop_length, lcGo]
      exact ok_bind.mpr (ok_stays (stay _ s h) (ok_pure.mpr (hend s h)))
    | succ k ih =>
      intro i s hi h
      have hl : i < xs.length := by omega
      rw [List.drop_eq_getElem_cons hl, lcGo]
      refine ok_bind.mpr (ok_stays (stay _ s h) (ok_bind.mpr ((step i _ s (List.getElem?_eq_getElem hl) h).mono fun y s' q => ok_bind.mpr (q.mono fun _ s2 q2 => ih (i + 1) s2 (by omega) q2))))
  exact key xs.length 0 s (by omega) h0
/-! ### calls -/
theorem ok_call {P : Prg} {fns : List FnI} {n i : Nat} {F : FnI} {vs : List Vl} {s : S} {Q : Vl → S → Prop} (h : fns[i]? = some F) (hl : vs.length = F.np)
    (hb : Ok (execSs P (callF P fns n) F.body (vs.map some ++ List.replicate (F.nl - F.np) none)) ⟨s.cells, []⟩ fun r s' => Ok (ended r) s' fun v s2 => Okr (PI.fin s v s2) Q) : Ok (callF P fns (n + 1) i vs) s Q := by
  have e : callF P fns (n + 1) i vs = M.iff (vs.length = F.np) (frame (M.bind (execSs P (callF P fns n) F.body (vs.map some ++ List.replicate (F.nl - F.np) none)) ended)) := by
    rw [callF, h]
  rw [e]
  exact ok_iff.mpr ⟨hl, ok_frame (ok_bind.mpr hb)⟩
end PI
/-! PIx: the interpreter's steps, as equivalences. -/
namespace PI
open PySem
section
variable {P : Prg} {G : Nat → List Vl → M Vl} {s : S} {env : Env} {Q : Vl → S → Prop} {α : Type}
theorem ok_bc {k : Bool} {a b : M α} {Q : α → S → Prop} : Ok (bc k a b) s Q ↔ (k = true → Ok a s Q) ∧ (k = false → Ok b s Q) := by
  cases k with
  | true => exact ⟨fun h => ⟨fun _ => h, fun e => nomatch e⟩, fun h => h.1 rfl⟩
  | false => exact ⟨fun h => ⟨fun e => (nomatch e), fun _ => h⟩, fun h => h.2 rfl⟩
theorem ok_bc_t {a b : M α} {Q : α → S → Prop} : Ok (bc true a b) s Q ↔ Ok a s Q := Iff.rfl
theorem ok_bc_f {a b : M α} {Q : α → S → Prop} : Ok (bc false a b) s Q ↔ Ok b s Q := Iff.rfl
theorem ok_bc_d {p : Prop} [Decidable p] {a b : M α} {Q : α → S → Prop} : Ok (bc (decide p) a b) s Q ↔ (p → Ok a s Q) ∧ (¬ p → Ok b s Q) := by
  by_cases h : p
  · rw [decide_eq_true h]; exact ⟨fun q => ⟨fun _ => q, fun e => absurd h e⟩, fun q => q.1 h⟩
  · rw [decide_eq_false h]; exact ⟨fun q => ⟨fun e => absurd e h, fun _ => q⟩, fun q => q.2 h⟩
theorem ok_bc_n {p : Prop} [Decidable p] {a b : M α} {Q : α → S → Prop} : Ok (bc (!decide p) a b) s Q ↔ (¬ p → Ok a s Q) ∧ (p → Ok b s Q) := by
  by_cases h : p
  · rw [decide_eq_true h]; exact ⟨fun q => ⟨fun e => absurd h e, fun _ => q⟩, fun q => q.2 h⟩
  · rw [decide_eq_false h]; exact ⟨fun q => ⟨fun _ => q, fun e => absurd e h⟩, fun q => q.1 h⟩
/-! expressions -/
theorem ok_slot {i : Nat} : Ok (slot env i) s Q ↔ ∃ v, env[i]? = some (some v) ∧ Q v s := by
  unfold slot
  cases e : env[i]? with
  | none => exact ⟨fun ⟨_, _, e, _⟩ => (by cases e), fun ⟨_, e, _⟩ => (by cases e)⟩
  | some o =>
    cases o with
    | none => exact ⟨fun ⟨_, _, e, _⟩ => (by cases e), fun ⟨_, e, _⟩ => (by cases e)⟩
    | some v => exact ⟨fun ⟨_, _, e, q⟩ => (by cases e; exact ⟨v, rfl, q⟩), fun ⟨_, e, q⟩ => (by cases e; exact ok_pure.mpr q)⟩
theorem ev_var {i : Nat} : Ok (evalE P G (.var i) env) s Q ↔ ∃ v, env[i]? = some (some v) ∧ Q v s := by rw [evalE]; exact ok_slot
theorem ev_lit {d : D} : Ok (evalE P G (.lit d) env) s Q ↔ Q (.dat d) s := by rw [evalE]; exact ok_pure
theorem ev_glb {x : Str} {d : D} : Ok (evalE P G (.glb x d) env) s Q ↔ Q (.dat d) s := by rw [evalE]; exact ok_pure
theorem ev_tup {es : List Ex} : Ok (evalE P G (.tup es) env) s Q ↔ Ok (evalEs P G es env) s fun vs s' => Ok (tupM vs) s' Q := by rw [evalE]; exact ok_bind
theorem ev_lst {es : List Ex} : Ok (evalE P G (.lst es) env) s Q ↔ Ok (evalEs P G es env) s fun vs s' => vs.length ≤ sizeLine ∧ Q (.ref s'.cells.length) ⟨s'.cells ++ [.lst vs], s'.log⟩ := by
  rw [evalE, ok_bind]
  constructor <;> intro h <;> refine h.mono fun vs s' q => ?_
  · have := ok_iff.mp q
    exact ⟨this.1, ok_alloc.mp this.2⟩
  · exact ok_iff.mpr ⟨q.1, ok_alloc.mpr q.2⟩
theorem ev_bin {o : Bop} {a b : Ex} : Ok (evalE P G (.bin o a b) env) s Q ↔ Ok (evalE P G a env) s fun x s1 => Ok (evalE P G b env) s1 fun y s2 => Ok (binM o x y) s2 Q := by
  rw [evalE, ok_bind]; simp only [ok_bind]
theorem ev_neg {a : Ex} : Ok (evalE P G (.neg a) env) s Q ↔ Ok (evalE P G a env) s fun x s1 => ∃ i, x = .dat (.int i) ∧ Q (.dat (.int (-i))) s1 := by
  rw [evalE, ok_bind]
  constructor <;> intro h <;> refine h.mono fun x s' q => ?_
  · cases x with
    | ref n => exact (ok_bad.mp q).elim
    | dat d =>
      cases d with
      | int i => exact ⟨i, rfl, ok_pure.mp q⟩
      | _ => exact (ok_bad.mp q).elim
  · obtain ⟨i, rfl, q⟩ := q
    exact ok_pure.mpr q
theorem ev_cmp {o : Cop} {a b : Ex} : Ok (evalE P G (.cmp o a b) env) s Q ↔ Ok (evalE P G a env) s fun x s1 => Ok (evalE P G b env) s1 fun y s2 => Ok (cmpM o x y) s2 fun k s3 => Q (.dat (.bl k)) s3 := by
  rw [evalE, ok_bind]; simp only [ok_bind, ok_pure]
theorem ev_chn {o o' : Cop} {a b c : Ex} : Ok (evalE P G (.chn o o' a b c) env) s Q ↔ Ok (evalE P G a env) s fun x s1 => Ok (evalE P G b env) s1 fun y s2 => Ok (cmpM o x y) s2 fun k s3 =>
    Ok (bc k (M.bind (evalE P G c env) fun z => M.bind (cmpM o' y z) fun k' => M.pure (.dat (.bl k'))) (M.pure (.dat (.bl false)))) s3 Q := by
  rw [evalE, ok_bind]; simp only [ok_bind]
theorem ev_and {a b : Ex} : Ok (evalE P G (.and a b) env) s Q ↔ Ok (evalE P G a env) s fun x s1 => Ok (truM x) s1 fun k s2 => Ok (bc k (evalE P G b env) (M.pure x)) s2 Q := by
  rw [evalE, ok_bind]; simp only [ok_bind]
theorem ev_or {a b : Ex} : Ok (evalE P G (.or a b) env) s Q ↔ Ok (evalE P G a env) s fun x s1 => Ok (truM x) s1 fun k s2 => Ok (bc k (M.pure x) (evalE P G b env)) s2 Q := by
  rw [evalE, ok_bind]; simp only [ok_bind]
theorem ev_not {a : Ex} : Ok (evalE P G (.not a) env) s Q ↔ Ok (evalE P G a env) s fun x s1 => Ok (truM x) s1 fun k s2 => Q (.dat (.bl (!k))) s2 := by
  rw [evalE, ok_bind]; simp only [ok_bind, ok_pure]
theorem ev_ite {c a b : Ex} : Ok (evalE P G (.ite c a b) env) s Q ↔ Ok (evalE P G c env) s fun x s1 => Ok (truM x) s1 fun k s2 => Ok (bc k (evalE P G a env) (evalE P G b env)) s2 Q := by
  rw [evalE, ok_bind]; simp only [ok_bind]
theorem ev_ix {a b : Ex} : Ok (evalE P G (.ix a b) env) s Q ↔ Ok (evalE P G a env) s fun x s1 => Ok (evalE P G b env) s1 fun y s2 => Ok (ixM x y) s2 Q := by
  rw [evalE, ok_bind]; simp only [ok_bind]
theorem ev_sl {a : Ex} {lo hi : List Ex} : Ok (evalE P G (.sl a lo hi) env) s Q ↔ Ok (evalE P G a env) s fun x s1 => Ok (evalEs P G lo env) s1 fun l s2 => Ok (bound l) s2 fun lo s3 => Ok (evalEs P G hi env) s3 fun h s4 => Ok (bound h) s4 fun hi s5 => Ok (slO x lo hi) s5 Q := by
  rw [evalE, ok_bind]; simp only [ok_bind]
theorem ev_rev {a : Ex} : Ok (evalE P G (.rev a) env) s Q ↔ Ok (evalE P G a env) s fun x s1 => Ok (revM x) s1 Q := by
  rw [evalE, ok_bind]
theorem ev_call {f : Nat} {es : List Ex} : Ok (evalE P G (.call f es) env) s Q ↔ Ok (evalEs P G es env) s fun vs s1 => Ok (G f vs) s1 Q := by
  rw [evalE, ok_bind]
theorem ev_bi {b : Bi} {es : List Ex} : Ok (evalE P G (.bi b es) env) s Q ↔ Ok (evalEs P G es env) s fun vs s1 => Ok (biM b vs) s1 Q := by
  rw [evalE, ok_bind]
theorem ev_isi {e : Ex} {t : Str} : Ok (evalE P G (.isi e t) env) s Q ↔ Ok (evalE P G e env) s fun x s1 => Ok (tyM x) s1 fun a s2 => Q (.dat (.bl (tyIs a t))) s2 := by
  rw [evalE, ok_bind]; simp only [isiM, ok_bind, ok_pure]
theorem ev_bm {b : Bm} {e : Ex} {es : List Ex} : Ok (evalE P G (.bm b e es) env) s Q ↔ Ok (evalE P G e env) s fun x s1 => Ok (kindM b x) s1 fun _ s2 => Ok (evalEs P G es env) s2 fun vs s3 => Ok (bmM b x vs) s3 Q := by
  rw [evalE, ok_bind]; simp only [ok_bind]
/-- a comprehension's turn -/
def lcF (P : Prg) (G : Nat → List Vl → M Vl) (elt : Ex) (tg : Tg) (ifs : List Ex) (own : List Nat) (env : Env) (v : Vl) : M (Option Vl) := M.bind (bindTg tg v (wipeE env own)) fun env1 => M.bind (evalIfs P G ifs env1) fun b => bc b (M.bind (evalE P G elt env1) fun y => M.pure (some y)) (M.pure none)
theorem ev_lc {elt : Ex} {tg : Tg} {k : ItK} {args ifs : List Ex} {own : List Nat} : Ok (evalE P G (.lc elt tg k args ifs own) env) s Q ↔ Ok (evalEs P G args env) s fun vs s1 => Ok (itemsM k vs) s1 fun p s2 =>
    Ok (lcGo p.1 p.2 (lcF P G elt tg ifs own env) (.ref s2.cells.length) p.1) ⟨s2.cells ++ [.lst []], s2.log⟩ fun _ s3 => Q (.ref s2.cells.length) s3 := by
  rw [evalE, ok_bind]
  simp only [ok_bind, ok_alloc, ok_noX, ok_pure]
  rfl
theorem evs_nil {Q : List Vl → S → Prop} : Ok (evalEs P G [] env) s Q ↔ Q [] s := by rw [evalEs]; exact ok_pure
theorem evs_cons {e : Ex} {es : List Ex} {Q : List Vl → S → Prop} : Ok (evalEs P G (e :: es) env) s Q ↔ Ok (evalE P G e env) s fun v s1 => Ok (evalEs P G es env) s1 fun vs s2 => Q (v :: vs) s2 := by
  rw [evalEs, ok_bind]; simp only [ok_bind, ok_pure]
theorem ifs_nil {Q : Bool → S → Prop} : Ok (evalIfs P G [] env) s Q ↔ Q true s := by rw [evalIfs]; exact ok_pure
theorem ifs_cons {e : Ex} {es : List Ex} {Q : Bool → S → Prop} : Ok (evalIfs P G (e :: es) env) s Q ↔ Ok (evalE P G e env) s fun x s1 => Ok (truM x) s1 fun k s2 => Ok (bc k (evalIfs P G es env) (M.pure false)) s2 Q := by
  rw [evalIfs, ok_bind]; simp only [ok_bind]
/-! operators -/
theorem b_add {i j : Int} : Ok (binM .add (.dat (.int i)) (.dat (.int j))) s Q ↔ Q (.dat (.int (i + j))) s := ok_pure
theorem b_sub {i j : Int} : Ok (binM .sub (.dat (.int i)) (.dat (.int j))) s Q ↔ Q (.dat (.int (i - j))) s := ok_pure
theorem b_mul {i j : Int} : Ok (binM .mul (.dat (.int i)) (.dat (.int j))) s Q ↔ ((-(2 ^ 64) < i ∧ i < 2 ^ 64) ∨ (-(2 ^ 64) < j ∧ j < 2 ^ 64)) ∧ Q (.dat (.int (i * j))) s := by
  show Ok (M.iff _ (M.pure _)) s Q ↔ _
  rw [ok_iff, ok_pure]
theorem b_fdiv {i j : Int} : Ok (binM .fdiv (.dat (.int i)) (.dat (.int j))) s Q ↔ (0 < j ∧ j < 1073741824) ∧ Q (.dat (.int (i / j))) s := by
  show Ok (M.iff _ (M.pure _)) s Q ↔ _
  rw [ok_iff, ok_pure]
theorem b_mod {i j : Int} : Ok (binM .mod (.dat (.int i)) (.dat (.int j))) s Q ↔ 0 < j ∧ Q (.dat (.int (i % j))) s := by
  show Ok (M.iff _ (M.pure _)) s Q ↔ _
  rw [ok_iff, ok_pure]
theorem b_pow {i j : Int} : Ok (binM .pow (.dat (.int i)) (.dat (.int j))) s Q ↔ (0 ≤ j ∧ j ≤ 1000000 ∧ i.natAbs < 2 ^ 64) ∧ Q (.dat (.int (i ^ j.toNat))) s := by
  show Ok (M.iff _ (M.pure _)) s Q ↔ _
  rw [ok_iff, ok_pure]
theorem b_addS {i j : Str} : Ok (binM .add (.dat (.str i)) (.dat (.str j))) s Q ↔ i.length + j.length ≤ sizeLine ∧ Q (.dat (.str (i ++ j))) s := by
  show Ok (M.iff _ (M.pure _)) s Q ↔ _
  rw [ok_iff, ok_pure]
theorem b_addT {i j : List D} : Ok (binM .add (.dat (.tup i)) (.dat (.tup j))) s Q ↔ i.length + j.length ≤ sizeLine ∧ Q (.dat (.tup (i ++ j))) s := by
  show Ok (M.iff _ (M.pure _)) s Q ↔ _
  rw [ok_iff, ok_pure]
theorem ip_add {i j : Int} : Ok (iopM .add (.dat (.int i)) (.dat (.int j))) s Q ↔ Q (.dat (.int (i + j))) s := ok_pure
theorem ip_sub {i j : Int} : Ok (iopM .sub (.dat (.int i)) (.dat (.int j))) s Q ↔ Q (.dat (.int (i - j))) s := ok_pure
section
variable {Q : Bool → S → Prop}
theorem c_lt {i j : Int} : Ok (cmpM .lt (.dat (.int i)) (.dat (.int j))) s Q ↔ Q (decide (i < j)) s := ok_pure
theorem c_le {i j : Int} : Ok (cmpM .le (.dat (.int i)) (.dat (.int j))) s Q ↔ Q (decide (i ≤ j)) s := ok_pure
theorem c_gt {i j : Int} : Ok (cmpM .gt (.dat (.int i)) (.dat (.int j))) s Q ↔ Q (decide (j < i)) s := ok_pure
theorem c_ge {i j : Int} : Ok (cmpM .ge (.dat (.int i)) (.dat (.int j))) s Q ↔ Q (decide (j ≤ i)) s := ok_pure
theorem c_eq {i j : Int} : Ok (cmpM .eq (.dat (.int i)) (.dat (.int j))) s Q ↔ Q (decide (i = j)) s := ok_pure
theorem c_ne {i j : Int} : Ok (cmpM .ne (.dat (.int i)) (.dat (.int j))) s Q ↔ Q (!decide (i = j)) s := by
  show Ok (M.bind (eqM _ _) fun k => M.pure (!k)) s Q ↔ _
  rw [ok_bind]
  exact ok_pure.trans ok_pure
theorem c_eqS {i j : Str} : Ok (cmpM .eq (.dat (.str i)) (.dat (.str j))) s Q ↔ Q (decide (i = j)) s := ok_pure
theorem c_neS {i j : Str} : Ok (cmpM .ne (.dat (.str i)) (.dat (.str j))) s Q ↔ Q (!decide (i = j)) s := by
  show Ok (M.bind (eqM _ _) fun k => M.pure (!k)) s Q ↔ _
  rw [ok_bind]
  exact ok_pure.trans ok_pure
theorem t_bl {b : Bool} : Ok (truM (.dat (.bl b))) s Q ↔ Q b s := ok_pure
theorem t_int {i : Int} : Ok (truM (.dat (.int i))) s Q ↔ Q (i != 0) s := ok_pure
theorem t_non : Ok (truM (.dat .non)) s Q ↔ Q false s := ok_pure
theorem t_tup {l : List D} : Ok (truM (.dat (.tup l))) s Q ↔ Q (!l.isEmpty) s := ok_pure
end
/-! built-ins -/
theorem f_int {i : Int} : Ok (biM .int [.dat (.int i)]) s Q ↔ Q (.dat (.int i)) s := ok_pure
theorem f_intB {b : Bool} : Ok (biM .int [.dat (.bl b)]) s Q ↔ Q (.dat (.int (if b then 1 else 0))) s := ok_pure
theorem f_abs {i : Int} : Ok (biM .abs [.dat (.int i)]) s Q ↔ Q (.dat (.int (if i < 0 then -i else i))) s := ok_pure
theorem f_max {i j : Int} : Ok (biM .max [.dat (.int i), .dat (.int j)]) s Q ↔ Q (.dat (.int (if j > i then j else i))) s := ok_pure
theorem f_min {i j : Int} : Ok (biM .min [.dat (.int i), .dat (.int j)]) s Q ↔ Q (.dat (.int (if j < i then j else i))) s := ok_pure
theorem f_lenT {l : List D} : Ok (biM .len [.dat (.tup l)]) s Q ↔ Q (.dat (.int l.length)) s := ok_pure
theorem f_lenS {l : Str} : Ok (biM .len [.dat (.str l)]) s Q ↔ l.length ≤ sizeLine ∧ Q (.dat (.int l.length)) s := by
  show Ok (M.iff _ (M.pure _)) s Q ↔ _
  rw [ok_iff, ok_pure]
theorem f_lenL {n : Nat} {xs : List Vl} (h : s.cells[n]? = some (.lst xs)) : Ok (biM .len [.ref n]) s Q ↔ Q (.dat (.int xs.length)) s := by
  show Ok (M.bind (get n) _) s Q ↔ _
  rw [ok_bind, ok_get_of h]
  exact ok_pure
theorem f_lenR {n : Nat} {xs : List Int} (h : s.cells[n]? = some (.rol xs)) : Ok (biM .len [.ref n]) s Q ↔ Q (.dat (.int xs.length)) s := by
  show Ok (M.bind (get n) _) s Q ↔ _
  rw [ok_bind, ok_get_of h]
  exact ok_pure
theorem ints_map (is : List Int) : intsOf (is.map fun i => .dat (.int i)) = some is := by
  induction is with
  | nil => rfl
  | cons i is ih => show (intsOf (is.map fun i => Vl.dat (.int i))).map (i :: ·) = _; rw [ih]; rfl
theorem f_sumT {is : List Int} : Ok (biM .sum [.dat (.tup (is.map .int))]) s Q ↔ Q (.dat (.int is.sum)) s := by
  show Ok (M.bind (M.pure ((is.map D.int).map .dat)) fun xs => M.bind (M.of (intsOf xs)) fun is => M.pure (.dat (.int is.sum))) s Q ↔ _
  rw [ok_bind, ok_pure, List.map_map, ok_bind]
  show Ok (M.of (intsOf (is.map fun i => .dat (.int i)))) s _ ↔ _
  rw [ints_map, ok_of_some, ok_pure]
theorem f_tupL {n : Nat} {ds : List D} (h : s.cells[n]? = some (.lst (ds.map .dat))) : Ok (biM .tup [.ref n]) s Q ↔ Q (.dat (.tup ds)) s := by
  show Ok (M.bind (M.bind (get n) _) _) s Q ↔ _
  rw [ok_bind, ok_bind, ok_get_of h]
  show Ok (M.pure _) s _ ↔ _
  rw [ok_pure, ok_bind, dats_map, ok_of_some, ok_pure]
theorem tup_dats {ds : List D} : Ok (tupM (ds.map .dat)) s Q ↔ ds.length ≤ sizeLine ∧ Q (.dat (.tup ds)) s := by
  unfold tupM
  rw [dats_map]
  exact ok_iff.trans (and_congr Iff.rfl ok_pure)
theorem ix_lst {n : Nat} {xs : List Vl} {i : Int} (h : s.cells[n]? = some (.lst xs)) : Ok (ixM (.ref n) (.dat (.int i))) s Q ↔ ∃ v, L2.atI xs i = some v ∧ Q v s := by
  show Ok (M.bind (get n) _) s Q ↔ _
  rw [ok_bind, ok_get_of h]
  exact ok_of
theorem ix_rol {n : Nat} {xs : List Int} {i : Int} (h : s.cells[n]? = some (.rol xs)) : Ok (ixM (.ref n) (.dat (.int i))) s Q ↔ ∃ v, L2.atI (intsV xs) i = some v ∧ Q v s := by
  show Ok (M.bind (get n) _) s Q ↔ _
  rw [ok_bind, ok_get_of h]
  exact ok_of
theorem ix_tup {ds : List D} {i : Int} : Ok (ixM (.dat (.tup ds)) (.dat (.int i))) s Q ↔ ∃ v, L2.atI ds i = some v ∧ Q (.dat v) s := by
  show Ok (M.bind (M.of _) _) s Q ↔ _
  rw [ok_bind, ok_of]
  simp only [ok_pure]
theorem m_app {n : Nat} {xs : List Vl} {v : Vl} (h : s.cells[n]? = some (.lst xs)) (hz : xs.length < sizeLine) : Ok (bmM .append (.ref n) [v]) s Q ↔ Q (.dat .non) ⟨s.cells.set n (.lst (xs ++ [v])), v.refs.map (fun r => (n, r)) ++ s.log⟩ :=
  ok_upd_of h (by show (if xs.length < sizeLine then some (Cell.lst (xs ++ [v]), Vl.dat .non) else none) = _; rw [if_pos hz])
theorem k_app {n : Nat} {xs : List Vl} {Q : Unit → S → Prop} (h : s.cells[n]? = some (.lst xs)) : Ok (kindM .append (.ref n)) s Q ↔ Q () s := by
  show Ok (M.bind (get n) _) s Q ↔ _
  rw [ok_bind, ok_get_of h]
  exact ok_pure
theorem bd_nil {Q : Option Int → S → Prop} : Ok (bound []) s Q ↔ Q none s := ok_pure
theorem bd_one {i : Int} {Q : Option Int → S → Prop} : Ok (bound [.dat (.int i)]) s Q ↔ Q (some i) s := ok_pure
theorem sl_lst {n : Nat} {xs : List Vl} {l h : Option Int} (e : s.cells[n]? = some (.lst xs)) : Ok (slO (.ref n) l h) s Q ↔ Q (.ref s.cells.length) ⟨s.cells ++ [.lst (cutL xs l h)], s.log⟩ := by
  show Ok (M.bind (get n) _) s Q ↔ _
  rw [ok_bind, ok_get_of e]
  exact ok_alloc
theorem sl_tup {ds : List D} {l h : Option Int} : Ok (slO (.dat (.tup ds)) l h) s Q ↔ Q (.dat (.tup (cutL ds l h))) s := ok_pure
theorem rv_tup {ds : List D} : Ok (revM (.dat (.tup ds))) s Q ↔ Q (.dat (.tup ds.reverse)) s := ok_pure
theorem y_non {Q : Str → S → Prop} : Ok (tyM (.dat .non)) s Q ↔ Q "NoneType" s := ok_pure
theorem y_bl {b : Bool} {Q : Str → S → Prop} : Ok (tyM (.dat (.bl b))) s Q ↔ Q "bool" s := ok_pure
theorem y_int {b : Int} {Q : Str → S → Prop} : Ok (tyM (.dat (.int b))) s Q ↔ Q "int" s := ok_pure
theorem y_str {b : Str} {Q : Str → S → Prop} : Ok (tyM (.dat (.str b))) s Q ↔ Q "str" s := ok_pure
theorem y_tup {b : List D} {Q : Str → S → Prop} : Ok (tyM (.dat (.tup b))) s Q ↔ Q "tuple" s := ok_pure
/-! statements -/
section
variable {Q : Env × Fl → S → Prop}
theorem xs_nil : Ok (execSs P G [] env) s Q ↔ Q (env, .nx) s := by rw [execSs]; exact ok_pure
/-- what a statement's end leads to -/
def Seq (P : Prg) (G : Nat → List Vl → M Vl) (ss : List Sm) (Q : Env × Fl → S → Prop) (r : Env × Fl) (s : S) : Prop := match r.2 with
  | .nx => Ok (execSs P G ss r.1) s Q
  | fl => Q (r.1, fl) s
theorem xs_cons {st : Sm} {ss : List Sm} : Ok (execSs P G (st :: ss) env) s Q ↔ Ok (execS P G st env) s (Seq P G ss Q) := by
  rw [execSs, ok_bind]
  constructor <;> intro h <;> refine h.mono fun r s' q => ?_
  · obtain ⟨e, fl⟩ := r
    cases fl <;> first | exact (ok_pure (Q := Q)).mp q | exact q
  · obtain ⟨e, fl⟩ := r
    cases fl <;> first | exact (ok_pure (Q := Q)).mpr q | exact q
theorem sq_nx {ss : List Sm} {e : Env} : Seq P G ss Q (e, .nx) s ↔ Ok (execSs P G ss e) s Q := Iff.rfl
theorem sq_rt {ss : List Sm} {e : Env} {v : Vl} : Seq P G ss Q (e, .rt v) s ↔ Q (e, .rt v) s := Iff.rfl
theorem sq_bk {ss : List Sm} {e : Env} : Seq P G ss Q (e, .bk) s ↔ Q (e, .bk) s := Iff.rfl
theorem sq_ct {ss : List Sm} {e : Env} : Seq P G ss Q (e, .ct) s ↔ Q (e, .ct) s := Iff.rfl
theorem sq_rs {ss : List Sm} {e : Env} {x : Exc} : Seq P G ss Q (e, .rs x) s ↔ Q (e, .rs x) s := Iff.rfl
theorem nt_nx {I : Env → S → Prop} {e : Env} : Nxt I Q (e, .nx) s ↔ I e s := Iff.rfl
theorem nt_ct {I : Env → S → Prop} {e : Env} : Nxt I Q (e, .ct) s ↔ I e s := Iff.rfl
theorem nt_bk {I : Env → S → Prop} {e : Env} : Nxt I Q (e, .bk) s ↔ Q (e, .nx) s := Iff.rfl
theorem nt_rt {I : Env → S → Prop} {e : Env} {v : Vl} : Nxt I Q (e, .rt v) s ↔ Q (e, .rt v) s := Iff.rfl
/-- a name gets a value: the part is cut off -/
theorem x_asg {t : Tg} {e : Ex} (h : Ok (evalE P G e env) ⟨s.cells, []⟩ fun v s1 => Okr (PI.fin s v s1) fun v s2 => Ok (bindTg t v env) s2 fun env' s3 => Q (env', .nx) s3) : Ok (execS P G (.asg t e) env) s Q := by
  rw [execS]
  refine ok_lift (ok_frame (h.mono fun v s1 q => ?_))
  obtain ⟨a, b, e1, q⟩ := q
  exact ⟨a, b, e1, by simp only [ok_bind, ok_pure]; exact q⟩
theorem x_ret {e : Ex} (h : Ok (evalE P G e env) ⟨s.cells, []⟩ fun v s1 => Okr (PI.fin s v s1) fun v s2 => Q (env, .rt v) s2) : Ok (execS P G (.ret e) env) s Q := by
  rw [execS]
  refine ok_lift (ok_frame (h.mono fun v s1 q => ?_))
  obtain ⟨a, b, e1, q⟩ := q
  exact ⟨a, b, e1, ok_pure.mpr q⟩
theorem x_exp {e : Ex} (h : Ok (evalE P G e env) ⟨s.cells, []⟩ fun v s1 => Okr (PI.fin s v s1) fun v s2 => Q (env, .nx) s2) : Ok (execS P G (.exp e) env) s Q := by
  rw [execS]
  refine ok_lift (ok_frame (h.mono fun v s1 q => ?_))
  obtain ⟨a, b, e1, q⟩ := q
  exact ⟨a, b, e1, ok_pure.mpr q⟩
theorem x_aug {i : Nat} {o : Bop} {e : Ex} (h : Ok (slot env i) ⟨s.cells, []⟩ fun x s1 => Ok (evalE P G e env) s1 fun y s2 => Ok (iopM o x y) s2 fun v s3 => Okr (PI.fin s v s3) fun v s4 => Q (env.set i (some v), .nx) s4) : Ok (execS P G (.aug i o e) env) s Q := by
  rw [execS]
  refine ok_lift (ok_frame ?_)
  simp only [ok_bind]
  refine h.mono fun x s1 q => q.mono fun y s2 q => q.mono fun v s3 q => ?_
  obtain ⟨a, b, e1, q⟩ := q
  exact ⟨a, b, e1, ok_pure.mpr q⟩
/-- a test: its value is data, so nothing of it is left -/
theorem ok_test {c : Ex} {Q : Bool → S → Prop} (h : Ok (evalE P G c env) ⟨s.cells, []⟩ fun x s1 => Ok (truM x) s1 fun k s2 => Okr (PI.fin s (.dat (.bl k)) s2) fun v s3 => v = .dat (.bl k) → Q k s3) : Ok (testM P G c env) s Q := by
  unfold testM
  refine ok_bind.mpr (ok_frame ?_)
  simp only [ok_bind, ok_pure]
  refine h.mono fun x s1 q => q.mono fun k s2 q => ?_
  obtain ⟨a, b, e1, q⟩ := q
  have e2 : a = .dat (.bl k) := by
    unfold PI.fin at e1
    split at e1
    · cases e1; rfl
    · cases e1; rfl
  subst e2
  exact ⟨_, b, e1, ok_pure.mpr (q rfl)⟩
theorem x_iff {c : Ex} {a b : List Sm} (h : Ok (testM P G c env) s fun k s' => Ok (bc k (execSs P G a env) (execSs P G b env)) s' Q) : Ok (execS P G (.iff c a b) env) s Q := by
  rw [execS]
  exact ok_lift h
/-- nothing but new cells -/
def Only (cs : List Cell) (s : S) : Prop := ∃ ex, s = ⟨cs ++ ex, []⟩
theorem only_0 {cs : List Cell} : Only cs ⟨cs, []⟩ ↔ True := ⟨fun _ => trivial, fun _ => ⟨[], by rw [List.append_nil]⟩⟩
theorem only_x {cs ex : List Cell} : Only cs ⟨cs ++ ex, []⟩ ↔ True := ⟨fun _ => trivial, fun _ => ⟨ex, rfl⟩⟩
/-- a choice whose test is known -/
theorem x_if (k : Bool) {c : Ex} {a b : List Sm} (h : Ok (evalE P G c env) ⟨s.cells, []⟩ fun x s1 => Ok (truM x) s1 fun k' s2 => k' = k ∧ Only s.cells s2) (q : Ok (bc k (execSs P G a env) (execSs P G b env)) s Q) : Ok (execS P G (.iff c a b) env) s Q := by
  refine x_iff (ok_test (h.mono fun x s1 h => h.mono fun k' s2 h => ?_))
  obtain ⟨rfl, ex, rfl⟩ := h
  exact (okr_dat (s := s)).mpr fun _ => q
theorem x_fr {t : Tg} {k : ItK} {args : List Ex} {b : List Sm} (h : Ok (evalEs P G args env) s fun vs s1 => Ok (itemsM k vs) s1 fun p s2 => Ok (forGo p.1 p.2 (fun v env => M.bind (bindTg t v env) fun env' => execSs P G b env') p.1 env) s2 Q) : Ok (execS P G (.fr t k args b) env) s Q := by
  rw [execS]
  refine ok_lift (ok_bind.mpr h)
theorem x_par {is : List Nat} {es : List Ex} (h : Ok (evalEs P G es env) s fun vs s1 => vs.length = is.length ∧ Q (setAll is vs env, .nx) s1) : Ok (execS P G (.par is es) env) s Q := by
  rw [execS]
  exact ok_lift (h.mono fun vs s1 q => ok_iff.mpr ⟨q.1, ok_pure.mpr q.2⟩)
theorem x_pass : Ok (execS P G .pass env) s Q ↔ Q (env, .nx) s := by rw [execS]; exact ok_pure
theorem x_brk : Ok (execS P G .brk env) s Q ↔ Q (env, .bk) s := by rw [execS]; exact ok_pure
theorem x_cnt : Ok (execS P G .cnt env) s Q ↔ Q (env, .ct) s := by rw [execS]; exact ok_pure
theorem en_rt {v : Vl} {e : Env} {Q : Vl → S → Prop} : Ok (ended (e, .rt v)) s Q ↔ Q v s := ok_pure
theorem en_nx {e : Env} {Q : Vl → S → Prop} : Ok (ended (e, .nx)) s Q ↔ Q (.dat .non) s := ok_pure
end
/-! targets, items -/
theorem tg_nm {i : Nat} {v : Vl} {Q : Env → S → Prop} : Ok (bindTg (.nm i) v env) s Q ↔ Q (env.set i (some v)) s := by rw [bindTg]; exact ok_pure
theorem tg_tp {ts : List Tg} {ds : List D} {Q : Env → S → Prop} : Ok (bindTg (.tp ts) (.dat (.tup ds)) env) s Q ↔ ds.length = ts.length ∧ Ok (bindTgs ts ds env) s Q := by rw [bindTg]; exact ok_iff
theorem tgs_nil {Q : Env → S → Prop} : Ok (bindTgs [] [] env) s Q ↔ Q env s := by rw [bindTgs]; exact ok_pure
theorem tgs_cons {t : Tg} {ts : List Tg} {d : D} {ds : List D} {Q : Env → S → Prop} : Ok (bindTgs (t :: ts) (d :: ds) env) s Q ↔ Ok (bindTg t (.dat d) env) s fun env' s' => Ok (bindTgs ts ds env') s' Q := by rw [bindTgs]; exact ok_bind
theorem it_rng1 {j : Int} {Q : List Vl × Option Nat → S → Prop} : Ok (itemsM .rng [.dat (.int j)]) s Q ↔ (-(2 ^ 62) ≤ j ∧ j ≤ 16777216) ∧ Q ((List.range j.toNat).map fun (i : Nat) => Vl.dat (.int i), none) s := by
  show Ok (M.iff _ (M.pure _)) s Q ↔ _
  rw [ok_iff, ok_pure]
theorem it_rng2 {i j : Int} {Q : List Vl × Option Nat → S → Prop} : Ok (itemsM .rng [.dat (.int i), .dat (.int j)]) s Q ↔ ((-(2 ^ 62) ≤ i ∧ i < 2 ^ 62) ∧ (-(2 ^ 62) ≤ j ∧ j < 2 ^ 62) ∧ j - i ≤ 16777216) ∧ Q ((List.range (j - i).toNat).map fun (k : Nat) => Vl.dat (.int (i + k)), none) s := by
  show Ok (M.iff _ (M.pure _)) s Q ↔ _
  rw [ok_iff, ok_pure]
theorem it_tup {ds : List D} {Q : List Vl × Option Nat → S → Prop} : Ok (itemsM .val [.dat (.tup ds)]) s Q ↔ Q (ds.map .dat, none) s := ok_pure
theorem it_lst {n : Nat} {xs : List Vl} {Q : List Vl × Option Nat → S → Prop} (h : s.cells[n]? = some (.lst xs)) : Ok (itemsM .val [.ref n]) s Q ↔ Q (xs, some n) s := by
  show Ok (M.bind (get n) _) s Q ↔ _
  rw [ok_bind, ok_get_of h]
  exact ok_pure
theorem ap_some {n : Nat} {xs : List Vl} {v : Vl} {Q : Unit → S → Prop} (h : s.cells[n]? = some (.lst xs)) (hz : xs.length < sizeLine) : Ok (appTo (.ref n) (some v)) s Q ↔ Q () ⟨s.cells.set n (.lst (xs ++ [v])), v.refs.map (fun r => (n, r)) ++ s.log⟩ := by
  show Ok (M.bind (updC n (uApp v)) _) s Q ↔ _
  rw [ok_bind, ok_upd_of h (c' := .lst (xs ++ [v])) (x := .dat .non) (by show (if xs.length < sizeLine then some (Cell.lst (xs ++ [v]), Vl.dat .non) else none) = _; rw [if_pos hz])]
  exact ok_pure
theorem ap_none {o : Vl} {Q : Unit → S → Prop} : Ok (appTo o none) s Q ↔ Q () s := ok_pure
end
/-! short tuples -/
section
variable {s : S} {Q : Vl → S → Prop}
theorem tup_0 : Ok (tupM []) s Q ↔ Q (.dat (.tup [])) s := (ok_iff.trans (and_iff_right (by show 0 ≤ 16777216; omega))).trans ok_pure
theorem tup_1 {a : D} : Ok (tupM [.dat a]) s Q ↔ Q (.dat (.tup [a])) s := (ok_iff.trans (and_iff_right (by show 1 ≤ 16777216; omega))).trans ok_pure
theorem tup_2 {a b : D} : Ok (tupM [.dat a, .dat b]) s Q ↔ Q (.dat (.tup [a, b])) s := (ok_iff.trans (and_iff_right (by show 2 ≤ 16777216; omega))).trans ok_pure
theorem tup_3 {a b c : D} : Ok (tupM [.dat a, .dat b, .dat c]) s Q ↔ Q (.dat (.tup [a, b, c])) s := (ok_iff.trans (and_iff_right (by show 3 ≤ 16777216; omega))).trans ok_pure
theorem tup_4 {a b c d : D} : Ok (tupM [.dat a, .dat b, .dat c, .dat d]) s Q ↔ Q (.dat (.tup [a, b, c, d])) s := (ok_iff.trans (and_iff_right (by show 4 ≤ 16777216; omega))).trans ok_pure
theorem tup_5 {a b c d e : D} : Ok (tupM [.dat a, .dat b, .dat c, .dat d, .dat e]) s Q ↔ Q (.dat (.tup [a, b, c, d, e])) s := (ok_iff.trans (and_iff_right (by show 5 ≤ 16777216; omega))).trans ok_pure
theorem tup_6 {a b c d e f : D} : Ok (tupM [.dat a, .dat b, .dat c, .dat d, .dat e, .dat f]) s Q ↔ Q (.dat (.tup [a, b, c, d, e, f])) s := (ok_iff.trans (and_iff_right (by show 6 ≤ 16777216; omega))).trans ok_pure
theorem tup_7 {a b c d e f g : D} : Ok (tupM [.dat a, .dat b, .dat c, .dat d, .dat e, .dat f, .dat g]) s Q ↔ Q (.dat (.tup [a, b, c, d, e, f, g])) s := (ok_iff.trans (and_iff_right (by show 7 ≤ 16777216; omega))).trans ok_pure
theorem tup_8 {a b c d e f g h : D} : Ok (tupM [.dat a, .dat b, .dat c, .dat d, .dat e, .dat f, .dat g, .dat h]) s Q ↔ Q (.dat (.tup [a, b, c, d, e, f, g, h])) s := (ok_iff.trans (and_iff_right (by show 8 ≤ 16777216; omega))).trans ok_pure
end
/-- a part whose answer is known -/
theorem ok_exact {α : Type} {m : M α} {s t : S} {a : α} (h : Ok m s fun v s' => v = a ∧ s' = t) {Q : α → S → Prop} : Ok m s Q ↔ Q a t := by
  obtain ⟨v, s', e, rfl, rfl⟩ := h
  exact ⟨fun ⟨_, _, e2, q⟩ => (by rw [e] at e2; cases e2; exact q), fun q => ⟨_, _, e, q⟩⟩
/-! .. the store written out -/
section
variable {cs : List Cell} {l : List (Nat × Nat)} {n : Nat} {xs : List Vl} {ns : List Int} {Q : Vl → S → Prop}
theorem ix_lstE {i : Int} (h : cs[n]? = some (.lst xs)) : Ok (ixM (.ref n) (.dat (.int i))) ⟨cs, l⟩ Q ↔ ∃ v, L2.atI xs i = some v ∧ Q v ⟨cs, l⟩ := ix_lst h
theorem ix_rolE {i : Int} (h : cs[n]? = some (.rol ns)) : Ok (ixM (.ref n) (.dat (.int i))) ⟨cs, l⟩ Q ↔ ∃ v, L2.atI (intsV ns) i = some v ∧ Q v ⟨cs, l⟩ := ix_rol h
theorem f_lenLE (h : cs[n]? = some (.lst xs)) : Ok (biM .len [.ref n]) ⟨cs, l⟩ Q ↔ Q (.dat (.int xs.length)) ⟨cs, l⟩ := f_lenL h
theorem f_tupLE {ds : List D} (h : cs[n]? = some (.lst (ds.map .dat))) : Ok (biM .tup [.ref n]) ⟨cs, l⟩ Q ↔ Q (.dat (.tup ds)) ⟨cs, l⟩ := f_tupL h
theorem sl_lstE {lo hi : Option Int} (h : cs[n]? = some (.lst xs)) : Ok (slO (.ref n) lo hi) ⟨cs, l⟩ Q ↔ Q (.ref cs.length) ⟨cs ++ [.lst (cutL xs lo hi)], l⟩ := sl_lst h
theorem it_lstE {Q : List Vl × Option Nat → S → Prop} (h : cs[n]? = some (.lst xs)) : Ok (itemsM .val [.ref n]) ⟨cs, l⟩ Q ↔ Q (xs, some n) ⟨cs, l⟩ := it_lst h
theorem ap_someE {v : Vl} {Q : Unit → S → Prop} (h : cs[n]? = some (.lst xs)) (hz : xs.length < sizeLine) : Ok (appTo (.ref n) (some v)) ⟨cs, l⟩ Q ↔ Q () ⟨cs.set n (.lst (xs ++ [v])), v.refs.map (fun r => (n, r)) ++ l⟩ := ap_some h hz
theorem m_appE {v : Vl} (h : cs[n]? = some (.lst xs)) (hz : xs.length < sizeLine) : Ok (bmM .append (.ref n) [v]) ⟨cs, l⟩ Q ↔ Q (.dat .non) ⟨cs.set n (.lst (xs ++ [v])), v.refs.map (fun r => (n, r)) ++ l⟩ := m_app h hz
theorem k_appE {Q : Unit → S → Prop} (h : cs[n]? = some (.lst xs)) : Ok (kindM .append (.ref n)) ⟨cs, l⟩ Q ↔ Q () ⟨cs, l⟩ := k_app h
end
/-! the store's cells -/
theorem at_new {l ex : List Cell} {k : Nat} : (l ++ ex)[l.length + k]? = ex[k]? := by rw [List.getElem?_append_right (by omega), Nat.add_sub_cancel_left]
theorem at_new0 {l ex : List Cell} : (l ++ ex)[l.length]? = ex[0]? := at_new (k := 0)
theorem set_new {l ex : List Cell} {k : Nat} {c : Cell} : (l ++ ex).set (l.length + k) c = l ++ ex.set k c := by rw [List.set_append_right _ _ (by omega), Nat.add_sub_cancel_left]
theorem set_new0 {l ex : List Cell} {c : Cell} : (l ++ ex).set l.length c = l ++ ex.set 0 c := set_new (k := 0)
theorem at_old {l ex : List Cell} {n : Nat} {c : Cell} (h : l[n]? = some c) : (l ++ ex)[n]? = some c := by rw [List.getElem?_append_left (List.getElem?_eq_some_iff.mp h).1]; exact h
end PI
/-! PInum: the numbers that a law draws from its script. -/
namespace PI
open PySem
local macro_rules | `(tactic| simp_wf) => `(tactic| simp only [ev_var, ev_lit, ev_glb, ev_tup, ev_lst, ev_bin, ev_neg, ev_cmp, ev_chn, ev_and, ev_or, ev_not, ev_ite, ev_ix, ev_sl, ev_rev, ev_call, ev_bi, ev_isi, ev_bm, ev_lc, evs_nil, evs_cons, ifs_nil, ifs_cons, b_add, b_sub, b_mul, b_fdiv, b_mod, b_pow, b_addS, b_addT, ip_add, ip_sub, c_lt, c_le, c_gt, c_ge, c_eq, c_ne, c_eqS, c_neS, t_bl, t_int, t_non, t_tup, f_int, f_intB, f_abs, f_max, f_min, f_lenT, f_lenS, f_sumT, ix_tup, bd_nil, bd_one, sl_tup, rv_tup, y_non, y_bl, y_int, y_str, y_tup, xs_nil, xs_cons, sq_nx, sq_rt, sq_bk, sq_ct, sq_rs, nt_nx, nt_ct, nt_bk, nt_rt, x_pass, x_brk, x_cnt, en_rt, en_nx, tg_nm, tg_tp, tgs_nil, tgs_cons, it_rng1, it_rng2, it_tup, only_0, only_x, tup_0, tup_1, tup_2, tup_3, tup_4, tup_5, tup_6, tup_7, tup_8, ap_none, ok_slot, ok_bc_t, ok_bc_f, ok_bc_d, ok_bc_n, ok_pure, ok_bind, okr_dat, okr_dat0, okr_datE, okr_datX, forall_const, at_new, at_new0, set_new, set_new0,
  List.map_cons, List.map_nil, List.replicate_succ, List.replicate_zero, List.cons_append, List.nil_append, List.getElem?_cons_zero, List.getElem?_cons_succ, List.getElem?_nil, List.set_cons_zero, List.set_cons_succ, List.set_nil, Option.some.injEq, exists_eq_left', exists_eq_left, List.length_cons, List.length_nil, true_and, and_true, Nat.sub_self, Nat.reduceSub, Nat.reduceAdd])
def numF : FnI := ⟨2, 9, [
  .asg (.nm 2) (.lst []),
  .fr (.nm 3) .rng [(.bi .len [(.var 0)])] [
      .asg (.nm 6) (.bi .abs [(.bi .int [(.ix (.var 0) (.var 3))])]),
      .iff (.cmp .ge (.var 6) (.bin .pow (.lit (.int 10)) (.lit (.int 18)))) [.fr (.nm 7) .rng [(.lit (.int 60))] [.iff (.and (.cmp .gt (.var 6) (.lit (.int 0))) (.cmp .lt (.bi .len [(.var 2)]) (.var 1))) [
            .exp (.bm .append (.var 2) [(.bin .mod (.var 6) (.lit (.int 10007)))]),
            .asg (.nm 6) (.bin .fdiv (.var 6) (.lit (.int 10007)))] []]] [.iff (.cmp .lt (.bi .len [(.var 2)]) (.var 1)) [
          .asg (.nm 8) (.bin .mod (.bi .int [(.bin .add (.bin .add (.bin .mul (.var 6) (.lit (.int 48271))) (.bin .mul (.var 3) (.lit (.int 69621)))) (.lit (.int 11)))]) (.lit (.int 2147483647))),
          .exp (.bm .append (.var 2) [(.bin .fdiv (.bin .mod (.bi .int [(.bin .add (.bin .add (.bin .mul (.var 8) (.lit (.int 16807))) (.bin .mul (.lit (.int 7)) (.var 3))) (.lit (.int 3)))]) (.lit (.int 2147483647))) (.lit (.int 3)))])] []]],
  .asg (.nm 4) (.bi .len [(.var 2)]),
  .asg (.nm 5) (.bin .add (.lit (.int 5381)) (.bi .len [(.var 0)])),
  .fr (.nm 3) .rng [(.bi .max [(.lit (.int 0)), (.bin .sub (.var 1) (.var 4))])] [
      .iff (.cmp .gt (.var 4) (.lit (.int 0))) [.asg (.nm 5) (.bin .add (.var 5) (.ix (.var 2) (.bin .mod (.var 3) (.var 4))))] [],
      .asg (.nm 5) (.bin .mod (.bi .int [(.bin .add (.bin .mul (.var 5) (.lit (.int 48271))) (.var 3))]) (.lit (.int 2147483647))),
      .exp (.bm .append (.var 2) [(.bin .fdiv (.var 5) (.lit (.int 7)))])],
  .ret (.sl (.var 2) [] [(.var 1)])]⟩
/-- what is known of the numbers -/
def NumOk (xs : List Int) : Prop := ∀ x ∈ xs, 0 ≤ x ∧ x < 2147483647
theorem numOk_app {xs : List Int} {x : Int} (h : NumOk xs) (h0 : 0 ≤ x) (h1 : x < 2147483647) : NumOk (xs ++ [x]) := fun y hy => by
  rcases List.mem_append.mp hy with z | z
  · exact h y z
  · have := List.mem_singleton.mp z
    subst this
    exact ⟨h0, h1⟩
theorem intsV_app (xs : List Int) (x : Int) : intsV xs ++ [.dat (.int x)] = intsV (xs ++ [x]) := by unfold intsV; rw [List.map_append]; rfl
theorem intsV_refs (xs : List Int) : (Cell.lst (intsV xs)).refs = [] := by
  show vrefs (intsV xs) = []
  unfold vrefs intsV
  induction xs with
  | nil => rfl
  | cons x xs ih => show [] ++ _ = _; rw [List.nil_append]; exact ih
theorem intsV_len (xs : List Int) : (intsV xs).length = xs.length := List.length_map _
theorem atI_pos {α : Type} {xs : List α} {i : Int} (h0 : 0 ≤ i) (h1 : i < xs.length) : L2.atI xs i = xs[i.toNat]? := by
  unfold L2.atI L2.ixN
  rw [if_pos h0, if_pos h1]
  rfl
theorem atI_ints {xs : List Int} {i : Int} (h0 : 0 ≤ i) (h1 : i < xs.length) : ∃ x, x ∈ xs ∧ L2.atI (intsV xs) i = some (.dat (.int x)) := by
  have hi : i.toNat < xs.length := by omega
  refine ⟨xs[i.toNat], List.getElem_mem hi, ?_⟩
  rw [atI_pos h0 (by rw [intsV_len]; exact h1)]
  unfold intsV
  rw [List.getElem?_map, List.getElem?_eq_getElem hi]
  rfl
section
variable {P : Prg} {fns : List FnI} {n i r : Nat} {ns : List Int} {many : Int} {s : S}
/-- the invariant of the loops: the list stands behind the old cells -/
def NumI (s : S) (r : Nat) (many : Int) (env : Env) (s' : S) : Prop := ∃ (e3 e4 e5 e6 e7 e8 : Option Vl) (xs : List Int), env = [some (.ref r), some (.dat (.int many)), some (.ref s.cells.length), e3, e4, e5, e6, e7, e8] ∧ s' = ⟨s.cells ++ [.lst (intsV xs)], []⟩ ∧ NumOk xs ∧ (xs.length : Int) ≤ many
def NumJ (s : S) (r : Nat) (many : Int) (k : Nat) (e4 e5 e8 : Option Vl) (env : Env) (s' : S) : Prop := ∃ (c : Int) (e7 : Option Vl) (xs : List Int), 0 ≤ c ∧ env = [some (.ref r), some (.dat (.int many)), some (.ref s.cells.length), some (.dat (.int k)), e4, e5, some (.dat (.int c)), e7, e8] ∧ s' = ⟨s.cells ++ [.lst (intsV xs)], []⟩ ∧ NumOk xs ∧ (xs.length : Int) ≤ many
def NumK (s : S) (r : Nat) (many : Int) (m k : Nat) (env : Env) (s' : S) : Prop := ∃ (l : Int) (e3 e6 e7 e8 : Option Vl) (ys : List Int), 0 ≤ l ∧ env = [some (.ref r), some (.dat (.int many)), some (.ref s.cells.length), e3, some (.dat (.int m)), some (.dat (.int l)), e6, e7, e8] ∧ s' = ⟨s.cells ++ [.lst (intsV ys)], []⟩ ∧ NumOk ys ∧ ys.length = m + k
theorem num_app {env : Env} {xs : List Int} {x : Int} {e : Ex} {Q : Env × Fl → S → Prop} {G : Nat → List Vl → M Vl} (he : env[2]? = some (some (.ref s.cells.length))) (hx : Ok (evalE P G e env) ⟨s.cells ++ [.lst (intsV xs)], []⟩ fun v s' => v = .dat (.int x) ∧ s' = ⟨s.cells ++ [.lst (intsV xs)], []⟩) (hz : xs.length < sizeLine)
    (q : Q (env, .nx) ⟨s.cells ++ [.lst (intsV (xs ++ [x]))], []⟩) : Ok (execS P G (.exp (.bm .append (.var 2) [e])) env) ⟨s.cells ++ [.lst (intsV xs)], []⟩ Q := by
  have hc : (s.cells ++ [Cell.lst (intsV xs)])[s.cells.length]? = some (.lst (intsV xs)) := by rw [at_new0]; rfl
  refine x_exp ?_
  simp_wf
  refine ⟨_, he, ?_⟩
  rw [k_app hc]
  refine hx.mono fun v s' h => ?_
  obtain ⟨rfl, rfl⟩ := h
  rw [m_app hc (by rw [intsV_len]; exact hz), intsV_app]
  show Okr (PI.fin _ _ ⟨_, []⟩) _
  rw [set_new0]
  exact (okr_all (by simp)).mpr q
/-- a value that is data, of a part that lays nothing -/
theorem x_val {t : Nat} {env : Env} {d : D} {e : Ex} {Q : Env × Fl → S → Prop} {G : Nat → List Vl → M Vl} (hx : Ok (evalE P G e env) ⟨s.cells, []⟩ fun v s' => v = .dat d ∧ s' = ⟨s.cells, []⟩) (q : Q (env.set t (some (.dat d)), .nx) s) : Ok (execS P G (.asg (.nm t) e) env) s Q := by
  refine x_asg (hx.mono fun v s' h => ?_)
  obtain ⟨rfl, rfl⟩ := h
  rw [okr_dat0, tg_nm]
  exact q
theorem numI_turn {k : Nat} {G : Nat → List Vl → M Vl} {s1 : S} {env : Env} (hr : s.cells[r]? = some (.rol ns)) (hk : k < ns.length) (hl : ns.length ≤ 63) (hm : many ≤ 1000) (h : NumI s r many env s1) {Q : Env × Fl → S → Prop} (q : ∀ e s', NumI s r many e s' → Q (e, .nx) s') :
    Ok (execSs P G [
      .asg (.nm 6) (.bi .abs [(.bi .int [(.ix (.var 0) (.var 3))])]),
      .iff (.cmp .ge (.var 6) (.bin .pow (.lit (.int 10)) (.lit (.int 18)))) [.fr (.nm 7) .rng [(.lit (.int 60))] [.iff (.and (.cmp .gt (.var 6) (.lit (.int 0))) (.cmp .lt (.bi .len [(.var 2)]) (.var 1))) [
            .exp (.bm .append (.var 2) [(.bin .mod (.var 6) (.lit (.int 10007)))]),
            .asg (.nm 6) (.bin .fdiv (.var 6) (.lit (.int 10007)))] []]] [.iff (.cmp .lt (.bi .len [(.var 2)]) (.var 1)) [
          .asg (.nm 8) (.bin .mod (.bi .int [(.bin .add (.bin .add (.bin .mul (.var 6) (.lit (.int 48271))) (.bin .mul (.var 3) (.lit (.int 69621)))) (.lit (.int 11)))]) (.lit (.int 2147483647))),
          .exp (.bm .append (.var 2) [(.bin .fdiv (.bin .mod (.bi .int [(.bin .add (.bin .add (.bin .mul (.var 8) (.lit (.int 16807))) (.bin .mul (.lit (.int 7)) (.var 3))) (.lit (.int 3)))]) (.lit (.int 2147483647))) (.lit (.int 3)))])] []]] (env.set 3 (some (.dat (.int k))))) s1 Q := by
  obtain ⟨e3, e4, e5, e6, e7, e8, xs, rfl, rfl, hn, hx⟩ := h
  have hc : (s.cells ++ [Cell.lst (intsV xs)])[s.cells.length]? = some (.lst (intsV xs)) := by rw [at_new0]; rfl
  have hr' : ∀ l, (s.cells ++ l)[r]? = some (.rol ns) := fun l => at_old hr
  obtain ⟨z, hz, ez⟩ := atI_ints (xs := ns) (i := k) (by omega) (by omega)
  simp_wf
  refine x_val (d := .int (if z < 0 then -z else z)) ?_ ?_
  · simp_wf
    rw [ix_rol (hr' _), ez]
    simp_wf
  have hc0 : 0 ≤ (if z < 0 then -z else z) := by split <;> omega
  generalize (if z < 0 then -z else z) = c at hc0
  simp_wf
  refine x_iff (ok_test ?_)
  simp_wf
  refine ⟨⟨by omega, by omega, by decide⟩, ⟨fun hb => ?_, fun hb => ?_⟩⟩
  · -- a great number: its digits
    simp_wf
    refine x_fr ?_
    simp_wf
    refine ⟨by omega, ?_⟩
    refine ok_for (fun j e s' => NumJ s r many k e4 e5 e8 e s') ?_ ?_ ⟨c, e7, xs, hc0, rfl, rfl, hn, hx⟩
    · rintro j v e s' hj ⟨c, e7, xs, hc0, rfl, rfl, hn, hx⟩
      have hc : (s.cells ++ [Cell.lst (intsV xs)])[s.cells.length]? = some (.lst (intsV xs)) := by rw [at_new0]; rfl
      obtain ⟨hj, rfl⟩ := rng_get hj
      simp_wf
      refine x_iff (ok_test ?_)
      simp_wf
      refine ⟨fun h1 => ?_, fun h1 => ?_⟩
      · rw [f_lenL hc]
        simp_wf
        rw [intsV_len]
        refine ⟨fun h2 => ?_, fun h2 => ?_⟩
        · simp_wf
          refine num_app (x := c % 10007) rfl ?_ (by have : sizeLine = 16777216 := rfl; omega) ?_
          · simp_wf
            omega
          · simp_wf
            refine x_val (d := .int (c / 10007)) ?_ ?_
            · simp_wf
              omega
            · simp_wf
              exact ⟨_, _, _, by omega, rfl, rfl, numOk_app hn (by omega) (by omega), by simp; omega⟩
        · simp_wf
          exact ⟨_, _, _, hc0, rfl, rfl, hn, hx⟩
      · simp_wf
        exact ⟨fun z => absurd z h1, fun _ => ⟨_, _, _, hc0, rfl, rfl, hn, hx⟩⟩
    · rintro e s' ⟨c, e7, xs, hc0, rfl, rfl, hn, hx⟩
      simp_wf
      exact q _ _ ⟨_, _, _, _, _, _, xs, rfl, rfl, hn, hx⟩
  · simp_wf
    refine x_iff (ok_test ?_)
    simp_wf
    rw [f_lenL hc]
    simp_wf
    rw [intsV_len]
    refine ⟨fun h2 => ?_, fun h2 => ?_⟩
    · simp_wf
      refine x_val (d := .int ((c * 48271 + k * 69621 + 11) % 2147483647)) ?_ ?_
      · simp_wf
        omega
      simp_wf
      have hd : 0 ≤ (c * 48271 + k * 69621 + 11) % 2147483647 := by omega
      generalize (c * 48271 + k * 69621 + 11) % 2147483647 = d at hd
      refine num_app (x := (d * 16807 + 7 * k + 3) % 2147483647 / 3) rfl ?_ (by have : sizeLine = 16777216 := rfl; omega) ?_
      · simp_wf
        omega
      · simp_wf
        exact q _ _ ⟨_, _, _, _, _, _, _, rfl, rfl, numOk_app hn (by omega) (by omega), by simp; omega⟩
    · simp_wf
      exact q _ _ ⟨_, _, _, _, _, _, xs, rfl, rfl, hn, hx⟩
theorem numbers_ok (h : fns[i]? = some numF) (hr : s.cells[r]? = some (.rol ns)) (hl : ns.length ≤ 63) (hm0 : 0 ≤ many) (hm : many ≤ 1000) :
    Ok (callF P fns (n + 1) i [.ref r, .dat (.int many)]) s fun v s' => ∃ xs : List Int, (xs.length : Int) = many ∧ NumOk xs ∧ v = .ref s.cells.length ∧ s' = ⟨s.cells ++ [.lst (intsV xs)], s.log⟩ := by
  refine ok_call h rfl ?_
  unfold numF
  simp_wf
  have hr' : ∀ l, (s.cells ++ l)[r]? = some (.rol ns) := fun l => at_old hr
  refine x_asg ?_
  simp_wf
  refine ⟨Nat.zero_le _, ?_⟩
  rw [okr_new0 (s := ⟨s.cells, []⟩) rfl]
  simp_wf
  refine x_fr ?_
  simp_wf
  rw [f_lenR (hr' _)]
  simp_wf
  refine ⟨by omega, ?_⟩
  refine ok_for (fun _ e s' => NumI s r many e s') ?_ ?_ ⟨_, _, _, _, _, _, [], rfl, rfl, fun x hx => (nomatch hx), by simpa using hm0⟩
  · intro k v e s' hk hI
    obtain ⟨hk, rfl⟩ := rng_get hk
    simp_wf
    exact xs_cons.mp (numI_turn (k := k) (Q := Nxt (fun e s' => NumI s r many e s') _) hr (by omega) hl hm hI fun e s' h => h)
  · rintro e s' ⟨e3, e4, e5, e6, e7, e8, xs, rfl, rfl, hn, hx⟩
    have hc : (s.cells ++ [Cell.lst (intsV xs)])[s.cells.length]? = some (.lst (intsV xs)) := by rw [at_new0]; rfl
    simp_wf
    refine x_val (d := .int xs.length) ?_ ?_
    · simp_wf
      rw [f_lenL hc, intsV_len]
      exact ⟨rfl, rfl⟩
    simp_wf
    refine x_val (d := .int (5381 + ns.length)) ?_ ?_
    · simp_wf
      rw [f_lenR (hr' _)]
      simp_wf
    simp_wf
    refine x_fr ?_
    simp_wf
    refine ⟨by split <;> omega, ?_⟩
    refine ok_for (fun k e s' => NumK s r many xs.length k e s') ?_ ?_ ⟨_, _, _, _, _, xs, by omega, rfl, rfl, hn, by omega⟩
    · rintro k v e s' hk ⟨l, e3, e6, e7, e8, ys, hl0, rfl, rfl, hn, hy⟩
      have hc : (s.cells ++ [Cell.lst (intsV ys)])[s.cells.length]? = some (.lst (intsV ys)) := by rw [at_new0]; rfl
      obtain ⟨hk, rfl⟩ := rng_get hk
      have hk2 : (k : Int) < many - xs.length := by
        split at hk <;> omega
      simp_wf
      -- the rest of a turn
      have rest : ∀ (l : Int) (Q : Env × Fl → S → Prop), 0 ≤ l → (∀ e s', NumK s r many xs.length (k + 1) e s' → Q (e, .nx) s') → Ok (execSs P (callF P fns n) [
            .asg (.nm 5) (.bin .mod (.bi .int [(.bin .add (.bin .mul (.var 5) (.lit (.int 48271))) (.var 3))]) (.lit (.int 2147483647))),
            .exp (.bm .append (.var 2) [(.bin .fdiv (.var 5) (.lit (.int 7)))])] [some (.ref r), some (.dat (.int many)), some (.ref s.cells.length), some (.dat (.int k)), some (.dat (.int xs.length)), some (.dat (.int l)), e6, e7, e8]) ⟨s.cells ++ [.lst (intsV ys)], []⟩ Q := fun l Q hl0 q => by
        simp_wf
        refine x_val (d := .int ((l * 48271 + k) % 2147483647)) ?_ ?_
        · simp_wf
          omega
        simp_wf
        refine num_app (x := (l * 48271 + k) % 2147483647 / 7) rfl ?_ (by have : sizeLine = 16777216 := rfl; omega) ?_
        · simp_wf
          omega
        simp_wf
        exact q _ _ ⟨_, _, _, _, _, _, by omega, rfl, rfl, numOk_app hn (by omega) (by omega), by simp; omega⟩
      refine x_iff (ok_test ?_)
      simp_wf
      refine ⟨fun h1 => ?_, fun h1 => ?_⟩
      · obtain ⟨y, hy1, hy2⟩ := atI_ints (xs := ys) (i := (k : Int) % (xs.length : Int)) (Int.emod_nonneg _ (by omega)) (by have := Int.emod_lt_of_pos (k : Int) (b := (xs.length : Int)) (by omega); omega)
        simp_wf
        refine x_val (d := .int (l + y)) ?_ ?_
        · simp_wf
          rw [ix_lst hc, hy2]
          simp_wf
          exact h1
        · simp_wf
          have := hn y hy1
          exact xs_cons.mp (rest (l + y) (Nxt (fun e s' => NumK s r many xs.length (k + 1) e s') _) (by omega) fun e s' h => h)
      · simp_wf
        exact xs_cons.mp (rest l (Nxt (fun e s' => NumK s r many xs.length (k + 1) e s') _) hl0 fun e s' h => h)
    · rintro e s' ⟨l, e3, e6, e7, e8, ys, hl0, rfl, rfl, hn, hy⟩
      have hc : (s.cells ++ [Cell.lst (intsV ys)])[s.cells.length]? = some (.lst (intsV ys)) := by rw [at_new0]; rfl
      have hlen : (ys.length : Int) = many := by
        rw [List.length_map, List.length_range] at hy
        split at hy <;> omega
      simp_wf
      refine x_ret ?_
      simp_wf
      rw [sl_lst hc]
      have e0 : cutL (intsV ys) none (some many) = intsV ys := by
        unfold cutL
        have e1 : HT.sIx (intsV ys).length (intsV ys).length (some many) = ys.length := by
          unfold HT.sIx
          simp only []
          rw [if_neg (by omega), intsV_len]
          omega
        rw [e1]
        show ((intsV ys).drop 0).take (ys.length - 0) = _
        rw [List.drop_zero, Nat.sub_zero, ← intsV_len, List.take_length]
      rw [e0]
      have rf : ∀ b : Nat, ((Cell.lst (intsV ys)).refs.all fun q => Nat.blt q b) = true := fun b => by rw [intsV_refs]; rfl
      refine (okr_new0 (s := ⟨s.cells ++ [Cell.lst (intsV ys)], []⟩) (rf _)).mpr ?_
      show Okr (PI.fin s (Vl.ref (s.cells ++ [Cell.lst (intsV ys)]).length) ⟨(s.cells ++ [Cell.lst (intsV ys)]) ++ [Cell.lst (intsV ys)], []⟩) _
      rw [List.length_append, List.append_assoc]
      exact (okr_new (k := 1) (ex := [Cell.lst (intsV ys), Cell.lst (intsV ys)]) rfl (rf _)).mpr ⟨ys, hlen, hn, rfl, rfl⟩
end
end PI
/-! ### the text -/
namespace K44
open PySem PySem.Spec L2 PyProof.Rows PI
abbrev rw : PySem.W.OpenLaw := PySem.Challenge.rw_portage_k44_homes
def top (i : Nat) : Stmt := PySem.Challenge.pw_portage_k44_homes.main.body.getD i (.Pass ⟨0, 0, 0, 0⟩)
def tx : Tx := ⟨["_law_numbers", "home_of", "law"], [], [], []⟩
def N0 : List Str := ["_law_script", "_law_many", "_law_numbers_here", "_law_k", "_law_base", "_law_last", "_law_cell", "_law_j", "_law_mixed"]
def P0 : List Str := ["_law_script", "_law_many"]
def N1 : List Str := ["object_name", "places", "process", "k"]
def P1 : List Str := ["object_name", "places"]
def N2 : List Str := ["_law_script", "_law_numbers_here", "_law_k", "_law_great", "_law_process", "_law_many", "_law_places", "_law_total", "_law_number", "_law_told", "_law_j"]
def P2 : List Str := ["_law_script"]

def F0 : FnI := ⟨2, 9, [
  .asg (.nm 2) (.lst []),
  .fr (.nm 3) .rng [(.bi .len [(.var 0)])] [
      .asg (.nm 6) (.bi .abs [(.bi .int [(.ix (.var 0) (.var 3))])]),
      .iff (.cmp .ge (.var 6) (.bin .pow (.lit (.int 10)) (.lit (.int 18)))) [.fr (.nm 7) .rng [(.lit (.int 60))] [.iff (.and (.cmp .gt (.var 6) (.lit (.int 0))) (.cmp .lt (.bi .len [(.var 2)]) (.var 1))) [
            .exp (.bm .append (.var 2) [(.bin .mod (.var 6) (.lit (.int 10007)))]),
            .asg (.nm 6) (.bin .fdiv (.var 6) (.lit (.int 10007)))] []]] [.iff (.cmp .lt (.bi .len [(.var 2)]) (.var 1)) [
          .asg (.nm 8) (.bin .mod (.bi .int [(.bin .add (.bin .add (.bin .mul (.var 6) (.lit (.int 48271))) (.bin .mul (.var 3) (.lit (.int 69621)))) (.lit (.int 11)))]) (.lit (.int 2147483647))),
          .exp (.bm .append (.var 2) [(.bin .fdiv (.bin .mod (.bi .int [(.bin .add (.bin .add (.bin .mul (.var 8) (.lit (.int 16807))) (.bin .mul (.lit (.int 7)) (.var 3))) (.lit (.int 3)))]) (.lit (.int 2147483647))) (.lit (.int 3)))])] []]],
  .asg (.nm 4) (.bi .len [(.var 2)]),
  .asg (.nm 5) (.bin .add (.lit (.int 5381)) (.bi .len [(.var 0)])),
  .fr (.nm 3) .rng [(.bi .max [(.lit (.int 0)), (.bin .sub (.var 1) (.var 4))])] [
      .iff (.cmp .gt (.var 4) (.lit (.int 0))) [.asg (.nm 5) (.bin .add (.var 5) (.ix (.var 2) (.bin .mod (.var 3) (.var 4))))] [],
      .asg (.nm 5) (.bin .mod (.bi .int [(.bin .add (.bin .mul (.var 5) (.lit (.int 48271))) (.var 3))]) (.lit (.int 2147483647))),
      .exp (.bm .append (.var 2) [(.bin .fdiv (.var 5) (.lit (.int 7)))])],
  .ret (.sl (.var 2) [] [(.var 1)])]⟩
def F1 : FnI := ⟨2, 4, [
  .asg (.tp [(.nm 2), (.nm 3)]) (.var 0),
  .ret (.bin .mod (.bin .add (.bin .add (.bi .sum [(.var 2)]) (.bin .mul (.lit (.int 3)) (.bi .len [(.var 2)]))) (.var 3)) (.var 1))]⟩
def F2 : FnI := ⟨1, 11, [
  .asg (.nm 1) (.call 0 [(.var 0), (.lit (.int 40))]),
  .fr (.nm 2) .rng [(.lit (.int 6))] [
      .asg (.nm 3) (.ix (.lst [(.lit (.int 1)), (.lit (.int 1)), (.bin .pow (.lit (.int 10)) (.lit (.int 29)))]) (.bin .mod (.ix (.var 1) (.bi .int [(.var 2)])) (.lit (.int 3)))),
      .asg (.nm 4) (.bi .tup [(.lc (.bin .mul (.bin .mod (.ix (.var 1) (.bin .mod (.bi .int [(.bin .add (.bin .add (.lit (.int 6)) (.bin .mul (.lit (.int 3)) (.var 2))) (.var 10))]) (.bi .len [(.var 1)]))) (.lit (.int 40))) (.var 3)) (.nm 10) .rng [(.bin .mod (.bin .fdiv (.ix (.var 1) (.bi .int [(.var 2)])) (.lit (.int 3))) (.lit (.int 6)))] [] [10])]),
      .asg (.nm 5) (.bin .mul (.bin .mod (.ix (.var 1) (.bi .int [(.bin .add (.lit (.int 30)) (.var 2))])) (.lit (.int 50))) (.var 3)),
      .asg (.nm 6) (.bin .add (.lit (.int 1)) (.bin .mod (.ix (.var 1) (.bi .int [(.bin .add (.lit (.int 12)) (.var 2))])) (.lit (.int 9)))),
      .asg (.nm 7) (.bin .add (.var 5) (.bin .mul (.lit (.int 3)) (.bi .len [(.var 4)]))),
      .fr (.nm 8) .val [(.var 4)] [.asg (.nm 7) (.bin .add (.var 7) (.var 8))],
      .asg (.nm 9) (.call 1 [(.tup [(.var 4), (.var 5)]), (.var 6)]),
      .iff (.or (.isi (.var 9) "bool") (.or (.cmp .ne (.var 9) (.bin .mod (.bi .int [(.var 7)]) (.var 6))) (.cmp .ne (.call 1 [(.tup [(.var 4), (.var 5)]), (.var 6)]) (.var 9)))) [.ret (.lit (.bl false))] [],
      .iff (.or (.cmp .ne (.call 1 [(.tup [(.var 4), (.bin .add (.var 5) (.lit (.int 1)))]), (.var 6)]) (.bin .mod (.bi .int [(.bin .add (.var 9) (.lit (.int 1)))]) (.var 6))) (.cmp .ne (.call 1 [(.tup [(.bin .add (.var 4) (.tup [(.lit (.int 1))])), (.var 5)]), (.var 6)]) (.bin .mod (.bi .int [(.bin .add (.var 9) (.lit (.int 4)))]) (.var 6)))) [.ret (.lit (.bl false))] [],
      .iff (.or (.cmp .ne (.call 1 [(.tup [(.rev (.var 4)), (.var 5)]), (.var 6)]) (.var 9)) (.cmp .ne (.call 1 [(.tup [(.var 4), (.var 5)]), (.lit (.int 1))]) (.lit (.int 0)))) [.ret (.lit (.bl false))] []],
  .ret (.lit (.bl true))]⟩

def fns : List FnI := [F0, F1, F2]
def pp : Prg := ⟨[], []⟩
def d0 : He.DefD := ⟨("_law_numbers", none), "_law_numbers", "_law_numbers", defArgs (top 3), defBody (top 3), defScope (top 3), [], []⟩
theorem t0 : trSs (tx.tc N0 (defScope (top 3))) (defBody (top 3)) = some F0.body := by kernel_rfl
theorem s0 : FnScope N0 P0 (defScope (top 3)) := ⟨rfl, rfl, rfl, by decide +kernel, rfl, by decide +kernel, by decide +kernel⟩
theorem e0 {w : Wd} {f : Addr} {fd : FuncData} (F : FunD w.K "_law_numbers" "_law_numbers" (defArgs (top 3)) (defBody (top 3)) (defScope (top 3)) [] [] f fd) : FnE tx w fns 0 f fd P0 :=
  ⟨⟨F0, N0, _, _, _, _, _, rfl, F, s0, rfl, rfl, t0⟩, F.bindsN fun _ _ _ _ _ _ us hl => match us, hl with | [_, _], _ => rfl⟩
def d1 : He.DefD := ⟨("home_of", none), "home_of", "home_of", defArgs (top 1), defBody (top 1), defScope (top 1), [], []⟩
theorem t1 : trSs (tx.tc N1 (defScope (top 1))) (defBody (top 1)) = some F1.body := by kernel_rfl
theorem s1 : FnScope N1 P1 (defScope (top 1)) := ⟨rfl, rfl, rfl, by decide +kernel, rfl, by decide +kernel, by decide +kernel⟩
theorem e1 {w : Wd} {f : Addr} {fd : FuncData} (F : FunD w.K "home_of" "home_of" (defArgs (top 1)) (defBody (top 1)) (defScope (top 1)) [] [] f fd) : FnE tx w fns 1 f fd P1 :=
  ⟨⟨F1, N1, _, _, _, _, _, rfl, F, s1, rfl, rfl, t1⟩, F.bindsN fun _ _ _ _ _ _ us hl => match us, hl with | [_, _], _ => rfl⟩
def d2 : He.DefD := ⟨("law", none), "law", "law", defArgs (top 4), defBody (top 4), defScope (top 4), [], []⟩
theorem t2 : trSs (tx.tc N2 (defScope (top 4))) (defBody (top 4)) = some F2.body := by kernel_rfl
theorem s2 : FnScope N2 P2 (defScope (top 4)) := ⟨rfl, rfl, rfl, by decide +kernel, rfl, by decide +kernel, by decide +kernel⟩
theorem e2 {w : Wd} {f : Addr} {fd : FuncData} (F : FunD w.K "law" "law" (defArgs (top 4)) (defBody (top 4)) (defScope (top 4)) [] [] f fd) : FnE tx w fns 2 f fd P2 :=
  ⟨⟨F2, N2, _, _, _, _, _, rfl, F, s2, rfl, rfl, t2⟩, F.bindsN fun _ _ _ _ _ _ us hl => match us, hl with | [_], _ => rfl⟩
def fn : List He.DefD := [d0, d1, d2]
def fa0 : List He.Fa := [.glo "_law_numbers", .glo "home_of", .glo "law", .free "len", .free "sum", .free "abs", .free "int", .free "max", .free "min", .free "tuple", .free "list", .free "all", .free "any", .free "range", .free "isinstance", .free "bool", .free "str", .free "set", .free "dict", .free "sorted", .free "enumerate", .free "zip", .free "reversed"]
abbrev R : PySem.W.OpenRow := PySem.W.OpenLaw.row rw
abbrev hk : PySem.W.Hook := He.hookD 4 fa0 fn
def ob (s : PySem.W.SharedT) : He.AlD := He.obsDG 4 fa0 fn (HandSHeadRun.getT s)
theorem ob_eq (s : PySem.W.SharedT) : ob s = hk.obs s.abs := He.obsDG_eq (HandSHeadRun.getT_eq s)
def loose : List PySem.Str := ["home_of", "_law_numbers"]
theorem run (w : World) : HandSHeadRun.RunEq R (PySem.W.view R.prog [4]) hk ob 2000 loose w := by
  intro os
  kernel_rfl
theorem facts {w : Wd} {h : Heap} {mg : Str → Option Value} (X : w.K.In h) (G : h.Ns mainGlobals mg) (c : He.SaysD fa0 fn w.K) : ModOk tx w mg fns := by
  refine ⟨fun x d e => (by cases e), fun x hx => ?_, fun i x e => ?_⟩
  · simp only [bltNames, List.mem_cons, List.not_mem_nil, or_false] at hx
    rcases hx with rfl | rfl | rfl | rfl | rfl | rfl | rfl | rfl | rfl | rfl | rfl | rfl | rfl | rfl | rfl | rfl | rfl | rfl | rfl | rfl
    · exact He.free_ok X G (c.fact 3 rfl)
    · exact He.free_ok X G (c.fact 4 rfl)
    · exact He.free_ok X G (c.fact 5 rfl)
    · exact He.free_ok X G (c.fact 6 rfl)
    · exact He.free_ok X G (c.fact 7 rfl)
    · exact He.free_ok X G (c.fact 8 rfl)
    · exact He.free_ok X G (c.fact 9 rfl)
    · exact He.free_ok X G (c.fact 10 rfl)
    · exact He.free_ok X G (c.fact 11 rfl)
    · exact He.free_ok X G (c.fact 12 rfl)
    · exact He.free_ok X G (c.fact 13 rfl)
    · exact He.free_ok X G (c.fact 14 rfl)
    · exact He.free_ok X G (c.fact 15 rfl)
    · exact He.free_ok X G (c.fact 16 rfl)
    · exact He.free_ok X G (c.fact 17 rfl)
    · exact He.free_ok X G (c.fact 18 rfl)
    · exact He.free_ok X G (c.fact 19 rfl)
    · exact He.free_ok X G (c.fact 20 rfl)
    · exact He.free_ok X G (c.fact 21 rfl)
    · exact He.free_ok X G (c.fact 22 rfl)
  · obtain ⟨i1, i2⟩ : i < 3 ∧ tx.fns[i]? = some x := by
      have := findIdx_get e
      exact ⟨by have := (List.getElem?_eq_some_iff.mp this).1; exact this, this⟩
    match i, i1, i2 with
    | 0, _, i2 =>
      cases i2
      obtain ⟨fd, F⟩ := c.def_ 0 (d := d0) rfl
      exact ⟨_, fd, P0, e0 F, He.glo_ok X G (c.fact 0 (f := .glo "_law_numbers") rfl)⟩
    | 1, _, i2 =>
      cases i2
      obtain ⟨fd, F⟩ := c.def_ 1 (d := d1) rfl
      exact ⟨_, fd, P1, e1 F, He.glo_ok X G (c.fact 1 (f := .glo "home_of") rfl)⟩
    | 2, _, i2 =>
      cases i2
      obtain ⟨fd, F⟩ := c.def_ 2 (d := d2) rfl
      exact ⟨_, fd, P2, e2 F, He.glo_ok X G (c.fact 2 (f := .glo "law") rfl)⟩
end K44
namespace K44
open PySem PI
local macro_rules | `(tactic| simp_wf) => `(tactic| simp only [ev_var, ev_lit, ev_glb, ev_tup, ev_lst, ev_bin, ev_neg, ev_cmp, ev_chn, ev_and, ev_or, ev_not, ev_ite, ev_ix, ev_sl, ev_rev, ev_call, ev_bi, ev_isi, ev_bm, ev_lc, evs_nil, evs_cons, ifs_nil, ifs_cons, b_add, b_sub, b_mul, b_fdiv, b_mod, b_pow, b_addS, b_addT, ip_add, ip_sub, c_lt, c_le, c_gt, c_ge, c_eq, c_ne, c_eqS, c_neS, t_bl, t_int, t_non, t_tup, f_int, f_intB, f_abs, f_max, f_min, f_lenT, f_lenS, f_sumT, ix_tup, bd_nil, bd_one, sl_tup, rv_tup, y_non, y_bl, y_int, y_str, y_tup, xs_nil, xs_cons, sq_nx, sq_rt, sq_bk, sq_ct, sq_rs, nt_nx, nt_ct, nt_bk, nt_rt, x_pass, x_brk, x_cnt, en_rt, en_nx, tg_nm, tg_tp, tgs_nil, tgs_cons, it_rng1, it_rng2, it_tup, only_0, only_x, tup_0, tup_1, tup_2, tup_3, tup_4, tup_5, tup_6, tup_7, tup_8, ap_none, ok_slot, ok_bc_t, ok_bc_f, ok_bc_d, ok_bc_n, ok_pure, ok_bind, okr_dat, okr_dat0, okr_datE, okr_datX, forall_const, at_new, at_new0, set_new, set_new0,
  List.map_cons, List.map_nil, List.replicate_succ, List.replicate_zero, List.cons_append, List.nil_append, List.getElem?_cons_zero, List.getElem?_cons_succ, List.getElem?_nil, List.set_cons_zero, List.set_cons_succ, List.set_nil, Option.some.injEq, exists_eq_left', exists_eq_left, List.length_cons, List.length_nil, true_and, and_true, Nat.sub_self, Nat.reduceSub, Nat.reduceAdd])
theorem home_ok (n : Nat) (ps : List Int) (k m : Int) (hm : 0 < m) (s : S) : Ok (callF pp fns (n+1) 1 [.dat (.tup [.tup (ps.map .int), .int k]), .dat (.int m)]) s fun v s' => v = .dat (.int ((ps.sum + 3 * ps.length + k) % m)) ∧ s' = s := by
  refine ok_call (F := F1) rfl rfl ?_
  unfold F1
  simp_wf
  refine x_asg ?_
  simp_wf
  refine x_ret ?_
  simp_wf
  exact ⟨.inl (by omega), hm, by simp⟩
theorem home99 {ps : List Int} {k m : Int} (hm : 0 < m) {s : S} {Q : Vl → S → Prop} : Ok (callF pp fns 99 1 [.dat (.tup [.tup (ps.map .int), .int k]), .dat (.int m)]) s Q ↔ Q (.dat (.int ((ps.sum + 3 * ps.length + k) % m))) s := ok_exact (home_ok 98 ps k m hm s)
/-- the loop's invariant -/
def LI (s1 : S) (e : PI.Env) (s' : S) : Prop := ∃ e2 e3 e4 e5 e6 e7 e8 e9 e10 : Option Vl, e = [some (.ref 0), some (.ref 1), e2, e3, e4, e5, e6, e7, e8, e9, e10] ∧ s' = s1
def LT (s1 : S) (e2 e3 e4 e5 e6 e9 e10 : Option Vl) (base : Int) (ps : List Int) (i : Nat) (e : PI.Env) (s' : S) : Prop := ∃ e8 : Option Vl, e = [some (.ref 0), some (.ref 1), e2, e3, e4, e5, e6, some (.dat (.int (base + (ps.take i).sum))), e8, e9, e10] ∧ s' = s1
theorem says : Says pp fns 100 2 := by
  intro ns hl
  have main : Ok (callF pp fns (99 + 1) 2 [.ref 0]) ⟨[.rol ns], []⟩ fun v _ => v = .dat (.bl true) := by
    refine ok_call (F := F2) rfl rfl ?_
    unfold F2
    simp_wf
    refine x_asg ?_
    simp_wf
    refine (numbers_ok (n := 98) (many := 40) (s := ⟨[.rol ns], []⟩) (r := 0) rfl rfl hl (by omega) (by omega)).mono ?_
    rintro v s' ⟨xs, hlen, hx, rfl, rfl⟩
    rw [okr_new0 (s := ⟨[.rol ns], []⟩) (c := .lst (intsV xs)) (ex := []) (by rw [intsV_refs]; rfl)]
    simp_wf
    generalize hs1 : ({ cells := [Cell.rol ns, Cell.lst (intsV xs)], log := [] } : S) = s1
    have h1 : s1.cells[1]? = some (.lst (intsV xs)) := by rw [← hs1]; rfl
    have at1 : ∀ i : Int, 0 ≤ i → i < 40 → ∃ x, (0 ≤ x ∧ x < 2147483647) ∧ L2.atI (intsV xs) i = some (.dat (.int x)) := fun i h0 h1 => by
      obtain ⟨x, hm, e⟩ := atI_ints (xs := xs) (i := i) h0 (by omega)
      exact ⟨x, hx x hm, e⟩
    refine x_fr ?_
    simp_wf
    refine ⟨by omega, ?_⟩
    refine ok_for (fun _ e s' => LI s1 e s') ?_ ?_ ⟨none, none, none, none, none, none, none, none, none, rfl, rfl⟩
    · rintro k v e s' hk0 ⟨e2, e3, e4, e5, e6, e7, e8, e9, e10, rfl, rfl⟩
      obtain ⟨hk1, rfl⟩ := rng_get hk0
      have hk : k < 6 := hk1
      obtain ⟨x0, ⟨x00, x01⟩, ex0⟩ := at1 k (by omega) (by omega)
      obtain ⟨x1, ⟨x10, x11⟩, ex1⟩ := at1 (30 + k) (by omega) (by omega)
      obtain ⟨x2, ⟨x20, x21⟩, ex2⟩ := at1 (12 + k) (by omega) (by omega)
      have h1' : ∀ l, (s'.cells ++ l)[1]? = some (.lst (intsV xs)) := fun l => at_old h1
      simp_wf
      -- great
      refine x_asg ?_
      simp_wf
      refine ⟨⟨by omega, by omega, by decide⟩, by decide, ?_⟩
      rw [ix_lstE (h1' _), ex0]
      simp_wf
      refine ⟨by omega, ?_⟩
      obtain ⟨g, hg, eg⟩ : ∃ g : Int, 1 ≤ g ∧ L2.atI [Vl.dat (.int 1), .dat (.int 1), .dat (.int (10 ^ Int.toNat 29))] (x0 % 3) = some (.dat (.int g)) := by
        have h3 : x0 % 3 = 0 ∨ x0 % 3 = 1 ∨ x0 % 3 = 2 := by omega
        rcases h3 with h3 | h3 | h3
        · rw [h3]; exact ⟨1, by decide, rfl⟩
        · rw [h3]; exact ⟨1, by decide, rfl⟩
        · rw [h3]; exact ⟨10 ^ 29, by decide, rfl⟩
      rw [ix_lstE (by rw [at_new0]; rfl), eg]
      simp_wf
      -- process
      refine x_asg ?_
      simp_wf
      rw [ix_lstE h1, ex0]
      simp_wf
      refine ⟨by decide, by decide, ⟨by omega, by omega⟩, ?_⟩
      refine ok_lc (fun i s2 => ∃ ps : List Int, s2 = ⟨s'.cells ++ [.lst (intsV ps)], []⟩ ∧ ps.length = i) (fun _ _ _ => trivial) ?_ ?_ ⟨[], rfl, rfl⟩
      · rintro j v s2 hj0 ⟨ps, rfl, hp⟩
        obtain ⟨hj1, rfl⟩ := rng_get hj0
        obtain ⟨y, ⟨y0, y1⟩, ey⟩ := at1 ((6 + 3 * k + j) % 40) (by omega) (by omega)
        unfold lcF
        simp only [wipeE]
        simp_wf
        rw [f_lenLE (h1' _)]
        simp_wf
        refine ⟨by omega, by rw [intsV_len]; omega, ?_⟩
        rw [intsV_len, hlen, ix_lstE (h1' _), ey]
        simp_wf
        refine ⟨by omega, .inl (by omega), ?_⟩
        rw [ap_someE (by rw [at_new0]; rfl) (by rw [intsV_len]; have : sizeLine = 16777216 := rfl; have : (List.range (x0 / 3 % 6).toNat).length < 100 := by rw [List.length_range]; omega
                                                omega), intsV_app, set_new0]
        exact ⟨ps ++ [y % 40 * g], rfl, by simp [hp]⟩
      rintro s2 ⟨ps, rfl, hp⟩
      have hp : ps.length < 6 := by rw [List.length_map, List.length_range] at hp; omega
      rw [f_tupLE (ds := ps.map .int) (by rw [at_new0]; show some (Cell.lst (intsV ps)) = _; unfold intsV; rw [List.map_map]; rfl)]
      simp_wf
      -- many, places, the sum
      refine x_val (d := .int (x1 % 50 * g)) ?_ ?_
      · simp_wf
        rw [ix_lstE h1, ex1]
        simp_wf
        exact ⟨by omega, .inl (by omega)⟩
      simp_wf
      refine x_val (d := .int (1 + x2 % 9)) ?_ ?_
      · simp_wf
        rw [ix_lstE h1, ex2]
        simp_wf
        omega
      have hpl : 0 < 1 + x2 % 9 := by omega
      generalize 1 + x2 % 9 = pl at hpl
      generalize x1 % 50 * g = mn
      simp_wf
      refine x_val (d := .int (mn + 3 * ps.length)) ?_ ?_
      · simp_wf
        exact ⟨.inl (by omega), by rw [List.length_map]⟩
      simp_wf
      refine x_fr ?_
      simp_wf
      refine ok_for (fun i e s2 => LT s' (some (.dat (.int k))) (some (.dat (.int g))) (some (.dat (.tup (ps.map .int)))) (some (.dat (.int mn))) (some (.dat (.int pl))) e9 e10 (mn + 3 * ps.length) ps i e s2) ?_ ?_ ⟨e8, by simp, rfl⟩
      · rintro i v e s2 hi ⟨e8, rfl, rfl⟩
        obtain ⟨p, hp1, rfl⟩ : ∃ p, ps[i]? = some p ∧ v = .dat (.int p) := by
          rw [List.map_map, List.getElem?_map] at hi
          cases e1 : ps[i]? with
          | none => rw [e1] at hi; cases hi
          | some p => rw [e1] at hi; cases hi; exact ⟨p, rfl, rfl⟩
        simp_wf
        refine x_val (d := .int (mn + 3 * ps.length + (ps.take i).sum + p)) ?_ ?_
        · simp_wf
        simp_wf
        refine ⟨some (.dat (.int p)), ?_, rfl⟩
        rw [List.take_add_one, hp1, List.sum_append]
        simp [Int.add_assoc]
      rintro e s2 ⟨e8, rfl, rfl⟩
      simp_wf
      have et : (List.take (List.map Vl.dat (List.map D.int ps)).length ps).sum = ps.sum := by simp
      rw [et]
      -- the answers
      refine x_asg ?_
      simp_wf
      rw [home99 hpl]
      simp_wf
      have eb : tyIs "int" "bool" = false := by decide
      have q1 : (ps.sum + 3 * (ps.length : Int) + mn) = mn + 3 * ps.length + ps.sum := by omega
      rw [q1]
      generalize hz : mn + 3 * (ps.length : Int) + ps.sum = z at q1
      refine x_if false ?_ ?_
      · simp_wf
        rw [eb]
        simp_wf
        simp only [not_true, false_implies, true_implies, true_and, home99 hpl, q1]
        simp_wf
        exact ⟨hpl, rfl⟩
      simp_wf
      have c1 : ps.map D.int ++ [D.int 1] = (ps ++ [1]).map D.int := by simp
      have c2 : (ps.map D.int).reverse = ps.reverse.map D.int := by simp
      have r1 : (ps.sum + 3 * (ps.length : Int) + (mn + 1)) % pl = (z % pl + 1) % pl := by rw [Int.emod_add_emod]; congr 1; omega
      have r2 : ((ps ++ [1]).sum + 3 * ((ps ++ [1]).length : Int) + mn) % pl = (z % pl + 4) % pl := by
        rw [Int.emod_add_emod, List.sum_append, List.length_append]
        congr 1
        simp only [List.sum_cons, List.sum_nil, List.length_cons, List.length_nil]
        omega
      have r3 : (ps.reverse.sum + 3 * (ps.reverse.length : Int) + mn) % pl = z % pl := by
        rw [List.length_reverse, List.sum_reverse, q1]
      have hsz : sizeLine = 16777216 := rfl
      refine x_if false ?_ ?_
      · simp_wf
        rw [home99 hpl]
        simp_wf
        simp only [r1, not_true, false_implies, true_implies, true_and]
        simp_wf
        simp only [c1, home99 hpl, r2]
        simp_wf
        refine ⟨hpl, by rw [hsz]; omega, hpl, ?_⟩
        rw [Int.emod_add_emod]
        simp
      simp_wf
      refine x_if false ?_ ?_
      · simp_wf
        rw [c2, home99 hpl]
        simp_wf
        simp only [r3, not_true, false_implies, true_implies, true_and, home99 (show (0 : Int) < 1 by decide)]
        simp_wf
        rw [Int.emod_one]
        rfl
      simp_wf
      exact ⟨_, _, _, _, _, _, _, _, _, rfl, rfl⟩
    · rintro e s' ⟨e2, e3, e4, e5, e6, e7, e8, e9, e10, rfl, rfl⟩
      simp_wf
      refine x_ret ?_
      simp_wf
      rw [← hs1]
      refine (okr_dat0 (s := ⟨[Cell.rol ns], []⟩)).mpr rfl
  obtain ⟨v, s', e, rfl⟩ := main
  exact ⟨s', e⟩
end K44
namespace K44
open PySem PySem.Spec L2 PyProof.Rows PI
theorem atLaw {w : World} {mg : Str → Option Value} {fa : Addr} {h : Heap} {W : Wd} (X : W.K.In h) (G : h.Ns mainGlobals mg) (c : He.SaysD fa0 fn W.K) (hmg : mg ("law" : Str) = some (.ref fa)) : LamX.LawAtS rw w W.K (L2.CX rw.prog w) 200 63 "_law_script" mg fa h := by
  have M0 := facts X G c
  obtain ⟨fd, F⟩ := c.def_ 2 (d := d2) rfl
  have e := hmg.symm.trans (He.glo_ok X G (c.fact 2 (f := .glo "law") rfl))
  cases e
  have b := FunD.bindsA (ps := ["_law_script"]) F fun _ _ _ _ _ _ us hl => match us, hl with | [_], _ => rfl
  exact law_at M0 (e2 F) (fun s v => b s [v] rfl) says
end K44
open PySem PySem.W PySem.Calls PyProof.Rows
theorem PySem.Challenge.cw_portage_k44_homes_holds : PySem.Challenge.rw_portage_k44_homes.Holds := by
  w_on; o_law
  refine HandSHeadRun.head_any (r := OpenLaw.row K44.rw) (q := view (OpenLaw.row K44.rw).prog [4]) (H := K44.hk) (ob := K44.ob) (M := 2000) (loose := K44.loose) (d := HandSHeadRun.topDef (OpenLaw.row K44.rw).prog 4) (kwd := []) K44.ob_eq
    (by kernel_rfl) (fun s => by kernel_rfl) K44.run (by kernel_rfl) (by kernel_rfl) (by kernel_rfl) (by rfl) (by first | assumption | decide +kernel) (by decide +kernel) ⟨rfl, rfl, rfl, rfl, rfl, by decide +kernel⟩ ?hw ?hc
  case hw => w_witness2
  case hc =>
    refine LamX.walk_ofTsE (l := K44.rw) (n := 63) (k := 200) (x := "_law_script") (CX := fun w => L2.CX K44.rw.prog w) rfl (by decide) (by kernel_rfl) ⟨rfl, by decide, by decide⟩ ?F (fun _ _ _ _ _ z => PI.no_exc z)
    intro w mg fa h Y G hmg0
    obtain ⟨K, KX, c⟩ := Y
    have hmg : mg ("law" : PySem.Str) = some (.ref fa) := by
      have e : (HandSHeadRun.topDef (OpenLaw.row K44.rw).prog 4).name = ("law" : PySem.Str) := by kernel_rfl
      rw [← e]
      exact hmg0
    exact ⟨K, KX, K44.atLaw (W := ⟨K, fun _ => 0, fun _ => .none⟩) KX G c hmg⟩
