import PyProof.Rows.All
import PyProof.CompFree
import PyProof.WalksMore
import PyProof.WalksPairs
import PyProof.WalksEnum
import PyProof.ZipIter
import PyProof.ForAny
import PyProof.DefCall
import PyProof.Cells
import PyProof.Rows.Nodes
import PyProof.P3Statements
import PyProof.Rows.RuleB_mul
import PyProof.Rows.RuleB_mod
import PyProof.Rows.RuleB_floordiv
import PyProof.Rows.RuleB_sub
import PyProof.Rows.RuleC_int
import PyProof.Rows.RuleU_int
import PyProof.Rows.IntRules
import PyProof.Rows.Chain
import PyProof.Rows.EqDataRows
import PyProof.Rows.TupSub
import PyProof.Rows.StrTemp
import PyProof.Rows.Own
import PyProof.Rules3
import PyProof.P3In
import PyProof.Rows.Globals
import PyProof.Rows.Exc
import PyProof.Rows.SumAny
import PyProof.IsiPairs
import PyProof.IsiSeqPairs
import PyProof.IsiNone
import PyProof.ListCopy
import PyProof.ListRange
import PyProof.TupleOfSeq
import PyProof.SliceList
import PyProof.Rows.SeqMore
import PyProof.Rows.ListMul
import PyProof.WalkInts
import PyProof.SliceMore
import PyProof.ForRange
import PyProof.Rows.Method
import PyProof.MeetsSeq
import PyProof.Methods
import PyProof.Rows.TupAssign
import PyProof.Dict
import PyProof.Raises
import PyProof.TupleIter
import PyProof.CompUse
import PyProof.EnumMake
import PyProof.Rows.ZipGen
import PyProof.Rows.CellsNews
import OpenK.KLine
import Wide.BridgeG
import Wide.All
import OpenK.AllK
import Wide.FinOn
import Lean
import PySem.Challenge.RW_uf060016_03
set_option Elab.async false
set_option linter.unusedVariables false
set_option linter.unusedSimpArgs false
set_option maxRecDepth 10000
namespace Mine
open PySem
/-- plain data; `ref` stands for an object that is tracked by its address -/
inductive D where
  | none
  | bool (b : Bool)
  | int (i : Int)
  | str (x : Str)
  | tup (ds : List D)
  | lst (ds : List D)
  | ref (a : Addr)

/-- the frozen part of the heap -/
abbrev Fz := Addr → Option Obj

mutual
inductive Rd (Φ : Fz) : Value → D → Prop
  | none : Rd Φ Value.none D.none
  | bool (b : Bool) : Rd Φ (Value.bool b) (D.bool b)
  | int (i : Int) (t : Tok) : Rd Φ (Value.int i t) (D.int i)
  | str (x : Str) (t : Tok) : Rd Φ (Value.str x t) (D.str x)
  | tup {a : Addr} {o : Obj} {vs : Array Value} {n : Nat} {ds : List D} : Φ a = some o → o.cls = .type "tuple" → o.data = .seq vs n → RdAll Φ vs.toList ds → Rd Φ (Value.ref a) (D.tup ds)
  | lst {a : Addr} {o : Obj} {vs : Array Value} {n : Nat} {ds : List D} : Φ a = some o → o.cls = .type "list" → o.data = .seq vs n → RdAll Φ vs.toList ds → Rd Φ (Value.ref a) (D.lst ds)
  | ref (a : Addr) : Rd Φ (Value.ref a) (D.ref a)
inductive RdAll (Φ : Fz) : List Value → List D → Prop
  | nil : RdAll Φ [] []
  | cons {v : Value} {vs : List Value} {d : D} {ds : List D} : Rd Φ v d → RdAll Φ vs ds → RdAll Φ (v :: vs) (d :: ds)
end
def Fz.le (Φ Φ' : Fz) : Prop := ∀ b o, Φ b = some o → Φ' b = some o
theorem Fz.le.refl (Φ : Fz) : Fz.le Φ Φ := fun _ _ h => h
theorem Fz.le.trans {Φ Φ' Φ'' : Fz} (h : Fz.le Φ Φ') (h' : Fz.le Φ' Φ'') : Fz.le Φ Φ'' := fun b o e => h' b o (h b o e)

mutual
theorem Rd.mono {Φ Φ' : Fz} (hs : Fz.le Φ Φ') : ∀ {v : Value} {d : D}, Rd Φ v d → Rd Φ' v d
  | _, _, .none => .none
  | _, _, .bool b => .bool b
  | _, _, .int i t => .int i t
  | _, _, .str x t => .str x t
  | _, _, .tup h c e r => .tup (hs _ _ h) c e (RdAll.mono hs r)
  | _, _, .lst h c e r => .lst (hs _ _ h) c e (RdAll.mono hs r)
  | _, _, .ref a => .ref a
theorem RdAll.mono {Φ Φ' : Fz} (hs : Fz.le Φ Φ') : ∀ {vs : List Value} {ds : List D}, RdAll Φ vs ds → RdAll Φ' vs ds
  | _, _, .nil => .nil
  | _, _, .cons h r => .cons (Rd.mono hs h) (RdAll.mono hs r)
end
section
variable {Φ : Fz} {v : Value} {d : D} {vs ws : List Value} {ds es : List D}
theorem RdAll.length (h : RdAll Φ vs ds) : vs.length = ds.length := by
  induction vs generalizing ds with
  | nil => cases h; rfl
  | cons v vs ih =>
    cases h with
    | cons _ r => rw [List.length_cons, List.length_cons, ih r]
theorem RdAll.append (h : RdAll Φ vs ds) (k : RdAll Φ ws es) : RdAll Φ (vs ++ ws) (ds ++ es) := by
  induction vs generalizing ds with
  | nil => cases h; exact k
  | cons v vs ih =>
    cases h with
    | cons h r => exact .cons h (ih r)
theorem RdAll.one (h : Rd Φ v d) : RdAll Φ [v] [d] := .cons h .nil
theorem RdAll.get (h : RdAll Φ vs ds) {k : Nat} {d : D} (hk : ds[k]? = some d) : ∃ v, vs[k]? = some v ∧ Rd Φ v d := by
  induction vs generalizing ds k with
  | nil => cases h; simp at hk
  | cons v vs ih =>
    cases h with
    | cons h r =>
      cases k with
      | zero => simp at hk; subst hk; exact ⟨v, rfl, h⟩
      | succ k => exact ih r (by simpa using hk)
theorem RdAll.get' (h : RdAll Φ vs ds) {k : Nat} {v : Value} (hk : vs[k]? = some v) : ∃ d, ds[k]? = some d ∧ Rd Φ v d := by
  induction vs generalizing ds k with
  | nil => simp at hk
  | cons v vs ih =>
    cases h with
    | cons h r =>
      cases k with
      | zero => simp at hk; subst hk; exact ⟨_, rfl, h⟩
      | succ k => exact ih r (by simpa using hk)
theorem RdAll.set (h : RdAll Φ vs ds) (k : Nat) (hv : Rd Φ v d) : RdAll Φ (vs.set k v) (ds.set k d) := by
  induction vs generalizing ds k with
  | nil => cases h; exact .nil
  | cons u vs ih =>
    cases h with
    | cons h r =>
      cases k with
      | zero => exact .cons hv r
      | succ k => exact .cons h (ih r k)
theorem RdAll.eraseIdx (h : RdAll Φ vs ds) (k : Nat) : RdAll Φ (vs.eraseIdx k) (ds.eraseIdx k) := by
  induction vs generalizing ds k with
  | nil => cases h; exact .nil
  | cons u vs ih =>
    cases h with
    | cons h r =>
      cases k with
      | zero => exact r
      | succ k => exact .cons h (ih r k)
theorem RdAll.take (h : RdAll Φ vs ds) (k : Nat) : RdAll Φ (vs.take k) (ds.take k) := by
  induction vs generalizing ds k with
  | nil => cases h; simp; exact .nil
  | cons u vs ih =>
    cases h with
    | cons h r =>
      cases k with
      | zero => exact .nil
      | succ k => exact .cons h (ih r k)
theorem RdAll.drop (h : RdAll Φ vs ds) (k : Nat) : RdAll Φ (vs.drop k) (ds.drop k) := by
  induction vs generalizing ds k with
  | nil => cases h; simp; exact .nil
  | cons u vs ih =>
    cases h with
    | cons h r =>
      cases k with
      | zero => exact .cons h r
      | succ k => exact ih r k
end
/-- a tracked object -/
inductive TObj where
  | list (ds : List D)
  | inst (C dx : Addr)
  | ns (fs : List (Str × D))
abbrev Sg := Addr → Option TObj

inductive OvR (Φ : Fz) : Option Value → Option D → Prop
  | no : OvR Φ none none
  | so {v : Value} {d : D} : Rd Φ v d → OvR Φ (some v) (some d)
theorem OvR.mono {Φ Φ' : Fz} {v : Option Value} {d : Option D} (hl : Fz.le Φ Φ') (h : OvR Φ v d) : OvR Φ' v d := by
  cases h with
  | no => exact .no
  | so r => exact .so (r.mono hl)
def TRel (Φ : Fz) (h : Heap) (a : Addr) : TObj → Prop
  | .list ds => ∃ vs, h.PlainList a vs ∧ RdAll Φ vs.toList ds
  | .inst C dx => h.get? a = some { cls := .ref C, dict := some dx, data := .plain }
  | .ns fs => ∃ m, h.Ns a m ∧ ∀ x, OvR Φ (m x) (fs.lookup x)

/-- what stands at any time: the ground g, the frozen part Φ, the tracked part σ -/
structure Ok (g : Heap) (σ : Sg) (Φ : Fz) (h : Heap) : Prop where
  base : ∀ b o, g.get? b = some o → h.get? b = some o ∧ σ b = none
  frz : ∀ b o, Φ b = some o → h.get? b = some o ∧ σ b = none
  trk : ∀ a t, σ a = some t → TRel Φ h a t

theorem TRel.mono {Φ Φ' : Fz} {h h' : Heap} {a : Addr} {t : TObj} (hl : Fz.le Φ Φ') (hh : ∀ o, h.get? a = some o → h'.get? a = some o) (x : TRel Φ h a t) : TRel Φ' h' a t := by
  cases t with
  | list ds =>
    obtain ⟨vs, hv, hr⟩ := x
    exact ⟨vs, hv.at hh, hr.mono hl⟩
  | inst C dx => exact hh _ x
  | ns fs =>
    obtain ⟨m, hn, hr⟩ := x
    exact ⟨m, hn.at' hh, fun y => (hr y).mono hl⟩

theorem TRel.isSome {Φ : Fz} {h : Heap} {a : Addr} {t : TObj} (x : TRel Φ h a t) : ∃ o, h.get? a = some o := by
  cases t with
  | list ds =>
    obtain ⟨vs, ⟨n, ho⟩, _⟩ := x
    exact ⟨_, ho⟩
  | inst C dx => exact ⟨_, x⟩
  | ns fs =>
    obtain ⟨m, ⟨o, _, _, ho, _⟩, _⟩ := x
    exact ⟨o, ho⟩

structure Step (g : Heap) (s s' : Shared) (Φ Φ' : Fz) (σ σ' : Sg) : Prop where
  same : ∃ h' tk, s' = { s with heap := h', toks := tk }
  keep : ∀ b o, s.heap.get? b = some o → σ b = none → s'.heap.get? b = some o
  mono : Fz.le Φ Φ'
  ok : Ok g σ' Φ' s'.heap
  newS : ∀ a, σ' a ≠ none → σ a ≠ none ∨ s.heap.get? a = none
  newF : ∀ b, Φ' b ≠ none → Φ b ≠ none ∨ σ b ≠ none ∨ s.heap.get? b = none
  live : ∀ b, s'.heap.get? b = none → s.heap.get? b = none

section
variable {g : Heap} {s s' s'' : Shared} {Φ Φ' Φ'' : Fz} {σ σ' σ'' : Sg}
theorem Step.refl (h : Ok g σ Φ s.heap) : Step g s s Φ Φ σ σ :=
  ⟨⟨s.heap, s.toks, rfl⟩, fun _ _ e _ => e, Fz.le.refl _, h, fun _ h => .inl h, fun _ h => .inl h, fun _ h => h⟩
theorem Step.trans (x : Step g s s' Φ Φ' σ σ') (y : Step g s' s'' Φ' Φ'' σ' σ'') : Step g s s'' Φ Φ'' σ σ'' := by
  have k : ∀ b, s.heap.get? b ≠ none → σ b = none → σ' b = none := fun b hb hs => by
    cases e : σ' b with
    | none => rfl
    | some t =>
      rcases x.newS b (by rw [e]; simp) with h | h
      · exact absurd hs h
      · exact absurd h hb
  have back : ∀ b, s'.heap.get? b = none → σ b ≠ none ∨ s.heap.get? b = none := fun b hb => by
    cases e : s.heap.get? b with
    | none => exact .inr rfl
    | some o =>
      left
      intro hs
      rw [x.keep b o e hs] at hb; cases hb
  refine ⟨?_, fun b o e hs => y.keep b o (x.keep b o e hs) (k b (by rw [e]; simp) hs), x.mono.trans y.mono, y.ok, fun a ha => ?_, fun b hb => ?_, fun b hb => x.live b (y.live b hb)⟩
  · obtain ⟨h', tk, rfl⟩ := x.same
    obtain ⟨h'', tk', rfl⟩ := y.same
    exact ⟨h'', tk', rfl⟩
  · rcases y.newS a ha with h | h
    · exact x.newS a h
    · exact back a h
  · rcases y.newF b hb with h | h | h
    · exact x.newF b h
    · rcases x.newS b h with h | h
      · exact .inr (.inl h)
      · exact .inr (.inr h)
    · exact .inr (back b h)
/-- a step that only uses up tokens -/
theorem Step.tok (h : Ok g σ Φ s.heap) (t : Nat) : Step g s { s with toks := t } Φ Φ σ σ :=
  ⟨⟨s.heap, t, rfl⟩, fun _ _ e _ => e, Fz.le.refl _, h, fun _ h => .inl h, fun _ h => .inl h, fun _ h => h⟩
/-- a step that keeps every object -/
theorem Step.keeps (h : Ok g σ Φ s.heap) {h' : Heap} {tk : Nat} (k : ∀ b o, s.heap.get? b = some o → h'.get? b = some o) : Step g s { s with heap := h', toks := tk } Φ Φ σ σ :=
  ⟨⟨h', tk, rfl⟩, fun b o e _ => k b o e, Fz.le.refl _,
    ⟨fun b o e => ⟨k b o (h.base b o e).1, (h.base b o e).2⟩, fun b o e => ⟨k b o (h.frz b o e).1, (h.frz b o e).2⟩, fun a t e => (h.trk a t e).mono (Fz.le.refl _) (k a)⟩,
    fun _ h => .inl h, fun _ h => .inl h, fun b hb => by
      cases e : s.heap.get? b with
      | none => rfl
      | some o => rw [k b o e] at hb; cases hb⟩

def Fz.put (Φ : Fz) (a : Addr) (o : Obj) : Fz := fun b => if b = a then some o else Φ b
theorem Fz.put_self (Φ : Fz) (a : Addr) (o : Obj) : Fz.put Φ a o a = some o := by simp [Fz.put]
theorem Fz.put_ne {Φ : Fz} {a b : Addr} {o : Obj} (h : b ≠ a) : Fz.put Φ a o b = Φ b := by simp [Fz.put, h]
theorem Fz.le_put {Φ : Fz} {a : Addr} {o : Obj} (h : Φ a = none) : Fz.le Φ (Fz.put Φ a o) := fun b o' e => by
  by_cases hb : b = a
  · subst hb; rw [h] at e; cases e
  · rw [Fz.put_ne hb]; exact e

/-- freeze an object that is neither tracked nor frozen -/
theorem Ok.freeze {hp : Heap} (h : Ok g σ Φ hp) {a : Addr} {o : Obj} (ho : hp.get? a = some o) (hs : σ a = none) (hf : Φ a = none) : Ok g σ (Fz.put Φ a o) hp :=
  ⟨h.base, fun b o' e => by
    by_cases hb : b = a
    · subst hb; rw [Fz.put_self] at e; cases e; exact ⟨ho, hs⟩
    · rw [Fz.put_ne hb] at e; exact h.frz b o' e, fun a t e => (h.trk a t e).mono (Fz.le_put hf) fun _ x => x⟩

theorem Step.freeze (x : Step g s s' Φ Φ' σ σ') {a : Addr} {o : Obj} (hn : s.heap.get? a = none) (ho : s'.heap.get? a = some o) (hs : σ' a = none) (hf : Φ' a = none) : Step g s s' Φ (Fz.put Φ' a o) σ σ' :=
  ⟨x.same, x.keep, x.mono.trans (Fz.le_put hf), x.ok.freeze ho hs hf, x.newS, fun b hb => by
    by_cases h : b = a
    · subst h; exact .inr (.inr hn)
    · rw [Fz.put_ne h] at hb; exact x.newF b hb, x.live⟩

/-- what is in the old heap and neither tracked nor frozen stays so -/
theorem Step.outS (x : Step g s s' Φ Φ' σ σ') {a : Addr} {o : Obj} (ho : s.heap.get? a = some o) (hs : σ a = none) : σ' a = none := by
  cases e : σ' a with
  | none => rfl
  | some t =>
    rcases x.newS a (by rw [e]; simp) with h | h
    · exact absurd hs h
    · rw [ho] at h; cases h
theorem Step.outF (x : Step g s s' Φ Φ' σ σ') {a : Addr} {o : Obj} (ho : s.heap.get? a = some o) (hs : σ a = none) (hf : Φ a = none) : Φ' a = none := by
  cases e : Φ' a with
  | none => rfl
  | some t =>
    rcases x.newF a (by rw [e]; simp) with h | h | h
    · exact absurd hf h
    · exact absurd hs h
    · rw [ho] at h; cases h
theorem Ok.freshS (h : Ok g σ Φ s.heap) {a : Addr} (hn : s.heap.get? a = none) : σ a = none := by
  cases e : σ a with
  | none => rfl
  | some t => obtain ⟨o, ho⟩ := (h.trk a t e).isSome; rw [hn] at ho; cases ho
theorem Ok.freshF (h : Ok g σ Φ s.heap) {a : Addr} (hn : s.heap.get? a = none) : Φ a = none := by
  cases e : Φ a with
  | none => rfl
  | some t => have := (h.frz a t e).1; rw [hn] at this; cases this
end
theorem size_none (h : Heap) : h.get? h.objs.size = none := by
  cases e : h.get? h.objs.size with
  | none => rfl
  | some o => exact absurd (Heap.lt_size e) (Nat.lt_irrefl _)

end Mine
set_option maxRecDepth 10000
namespace Mine
open PySem
/-- what is fixed for a whole law: the program, the world, the heap at the law's call, its globals and built-ins -/
structure Cx where
  prog : Program
  w : World
  g : Heap
  mg : Str → Option Value
  mb : Str → Option Value

def Room (n : Nat) (A : Around) : Prop := A.handled = none ∧ A.depth + n < recursionLimit ∧ A.units + 8 * n + 200 < cLine

theorem Room.deeper {n : Nat} {A : Around} {env : Env} (h : Room (n + 1) A) : Room n (A.deeper env) := by
  obtain ⟨h1, h2, h3⟩ := h
  refine ⟨h1, ?_, ?_⟩
  · show A.depth + 1 + n < recursionLimit; omega
  · show A.units + 3 + 8 * n + 200 < cLine; omega
theorem Room.le {n m : Nat} {A : Around} (h : Room n A) (hm : m ≤ n) : Room m A := by
  obtain ⟨h1, h2, h3⟩ := h
  exact ⟨h1, by omega, by omega⟩

/-- the post of an evaluation -/
def Ev (X : Cx) (s : Shared) (Φ : Fz) (σ : Sg) (Q : D → Sg → Prop) (v : Value) (s' : Shared) : Prop :=
  ∃ d σ' Φ', Step X.g s s' Φ Φ' σ σ' ∧ Rd Φ' v d ∧ Q d σ'
def Evs (X : Cx) (s : Shared) (Φ : Fz) (σ : Sg) (Q : List D → Sg → Prop) (vs : List Value) (s' : Shared) : Prop :=
  ∃ ds σ' Φ', Step X.g s s' Φ Φ' σ σ' ∧ RdAll Φ' vs ds ∧ Q ds σ'
/-- of a list just made: it is neither tracked nor frozen yet -/
def Evl (X : Cx) (s : Shared) (Φ : Fz) (σ : Sg) (Q : List D → Sg → Prop) (v : Value) (s' : Shared) : Prop :=
  ∃ a vs ds σ' Φ', v = .ref a ∧ Step X.g s s' Φ Φ' σ σ' ∧ s.heap.get? a = none ∧ s'.heap.PlainList a vs ∧ σ' a = none ∧ Φ' a = none ∧ RdAll Φ' vs.toList ds ∧ Q ds σ'
def No : Value → Shared → Prop := fun _ _ => False

/-- the global `f` is a function of the text -/
def IsFn (X : Cx) (f : Str) : Prop := ∃ a o fd, X.mg f = some (.ref a) ∧ X.g.get? a = some o ∧ o.data = .func fd

/-- a call of the text's function `f` with these data, as a transformer -/
def CallA (X : Cx) (n : Nat) (f : Value) (ds : List D) (σ : Sg) (Q : D → Sg → Prop) : Prop :=
  ∀ A s Φ vs, Room n A → Ok X.g σ Φ s.heap → RdAll Φ vs ds → wpAny (model X.prog X.w) A (call f vs) (Ev X s Φ σ Q) No s
def CallSem (X : Cx) (n : Nat) (f : Str) (ds : List D) (σ : Sg) (Q : D → Sg → Prop) : Prop := ∀ a, X.mg f = some (.ref a) → CallA X n (.ref a) ds σ Q

inductive BOp where | add | sub | mul | fdiv | mod
inductive COp where | lt | le | gt | ge | eq | ne | is_ | isn | in_ | nin
inductive Bi where | len | sum | min2 | max2 | min1 | max1 | isint | isbool | islist | istuple | tuple1 | int1

inductive MV where
  | unb
  | val (d : D)
  | mt (ds : List D)

def D.atom : D → Bool
  | .none | .bool _ | .int _ | .str _ => true
  | _ => false

mutual
def D.py : D → PyData
  | .none => .none
  | .bool b => .bool b
  | .int i => .int i
  | .str x => .str x
  | .tup ds => .tuple (D.pys ds)
  | .lst ds => .list (D.pys ds)
  | .ref _ => .none
def D.pys : List D → List PyData
  | [] => []
  | d :: ds => D.py d :: D.pys ds
end
/-- may be compared: no reference in it, not too deep, its texts real ones -/
def D.ok : Nat → D → Bool
  | _, .none | _, .bool _ | _, .int _ => true
  | _, .str x => PyData.strOk x
  | n + 1, .tup ds => ds.all (D.ok n)
  | n + 1, .lst ds => ds.all (D.ok n)
  | _, _ => false
def eqv (a b : D) : Bool := PyData.eqv a.py b.py

def small (i : Int) : Prop := -(2 ^ 63) ≤ i ∧ i < 2 ^ 63

inductive BinR : BOp → D → D → D → Prop
  | add (i j : Int) : BinR .add (.int i) (.int j) (.int (i + j))
  | sub (i j : Int) : BinR .sub (.int i) (.int j) (.int (i - j))
  | mul (i j : Int) (h : small i ∨ small j) : BinR .mul (.int i) (.int j) (.int (i * j))
  | fdiv (i j : Int) (h0 : j ≠ 0) (h1 : small j) : BinR .fdiv (.int i) (.int j) (.int (i.fdiv j))
  | mod (i j : Int) (h0 : j ≠ 0) : BinR .mod (.int i) (.int j) (.int (i.fmod j))
def binT (op : BOp) (x y : D) (Q : D → Prop) : Prop := ∃ r, BinR op x y r ∧ Q r

def D.isNone : D → Bool | .none => true | _ => false
def D.isInt : D → Bool | .int _ => true | .bool _ => true | _ => false
def D.isBool : D → Bool | .bool _ => true | _ => false
def D.isLst : D → Bool | .lst _ => true | _ => false
def D.isTup : D → Bool | .tup _ => true | _ => false

inductive CmpR : COp → D → D → Bool → Prop
  | lt (i j : Int) : CmpR .lt (.int i) (.int j) (decide (i < j))
  | le (i j : Int) : CmpR .le (.int i) (.int j) (decide (i ≤ j))
  | gt (i j : Int) : CmpR .gt (.int i) (.int j) (decide (j < i))
  | ge (i j : Int) : CmpR .ge (.int i) (.int j) (decide (j ≤ i))
  | eq (x y : D) (hx : x.ok 8 = true) (hy : y.ok 8 = true) : CmpR .eq x y (eqv x y)
  | ne (x y : D) (hx : x.ok 8 = true) (hy : y.ok 8 = true) : CmpR .ne x y (!eqv x y)
  | is_ (x : D) : CmpR .is_ x .none x.isNone
  | isn (x : D) : CmpR .isn x .none (!x.isNone)
  | in_ (x : D) (ds : List D) (hx : x.ok 8 = true) (hd : D.ok 9 (.lst ds) = true) : CmpR .in_ x (.lst ds) (ds.any fun y => eqv y x)
  | nin (x : D) (ds : List D) (hx : x.ok 8 = true) (hd : D.ok 9 (.lst ds) = true) : CmpR .nin x (.lst ds) (!ds.any fun y => eqv y x)
def cmpT (op : COp) (x y : D) (Q : Bool → Prop) : Prop := ∃ r, CmpR op x y r ∧ Q r

inductive IdxR : D → D → D → Prop
  | lst (ds : List D) (k : Int) (d : D) (h0 : 0 ≤ k) (h1 : k < 2 ^ 63) (hd : ds[k.toNat]? = some d) : IdxR (.lst ds) (.int k) d
  | tup (ds : List D) (k : Int) (d : D) (h0 : 0 ≤ k) (h1 : k < 2 ^ 63) (hd : ds[k.toNat]? = some d) : IdxR (.tup ds) (.int k) d
def idxT (x y : D) (Q : D → Prop) : Prop := ∃ r, IdxR x y r ∧ Q r

inductive BiR : Bi → List D → D → Prop
  | lenL (ds : List D) (h : ds.length ≤ 2 ^ 20) : BiR .len [.lst ds] (.int ds.length)
  | lenT (ds : List D) (h : ds.length ≤ 2 ^ 20) : BiR .len [.tup ds] (.int ds.length)
  | sum (ns : List Int) : BiR .sum [.lst (ns.map D.int)] (.int ns.sum)
  | max1 (ns : List Int) (m : Int) (hm : m ∈ ns) (h : ∀ k ∈ ns, k ≤ m) : BiR .max1 [.lst (ns.map D.int)] (.int m)
  | min1 (ns : List Int) (m : Int) (hm : m ∈ ns) (h : ∀ k ∈ ns, m ≤ k) : BiR .min1 [.lst (ns.map D.int)] (.int m)
  | min2 (a b : Int) : BiR .min2 [.int a, .int b] (.int (if b < a then b else a))
  | max2 (a b : Int) : BiR .max2 [.int a, .int b] (.int (if b > a then b else a))
  | isint (d : D) (h : ∀ a, d ≠ .ref a) : BiR .isint [d] (.bool d.isInt)
  | isbool (d : D) (h : ∀ a, d ≠ .ref a) : BiR .isbool [d] (.bool d.isBool)
  | islist (d : D) (h : ∀ a, d ≠ .ref a) : BiR .islist [d] (.bool d.isLst)
  | istuple (d : D) (h : ∀ a, d ≠ .ref a) : BiR .istuple [d] (.bool d.isTup)
def biT (b : Bi) (ds : List D) (Q : D → Prop) : Prop := ∃ r, BiR b ds r ∧ Q r

def frzAll (ρ : List MV) : List Nat → List MV
  | [] => ρ
  | i :: is => frzAll (match ρ.getD i .unb with | .mt ds => ρ.set i (.val (.lst ds)) | _ => ρ) is

def setAll (ρ : List MV) : List Nat → List D → List MV
  | i :: is, d :: ds => setAll (ρ.set i (.val d)) is ds
  | _, _ => ρ

def empS : Sg := fun _ => none

def condT (b : D) (x y : Prop) : Prop := ∃ c, b = .bool c ∧ (if c = true then x else y)

def notT (x : D) (Q : Bool → Prop) : Prop := ∃ b, x = .bool b ∧ Q (!b)

/-- an expression's meaning, as a transformer of posts -/
abbrev E := Cx → Nat → List MV → Sg → (D → Sg → Prop) → Prop
/-- of an expression that makes a new list -/
abbrev L := Cx → Nat → List MV → Sg → (List D → Sg → Prop) → Prop
/-- of what a for runs over, handed to k targets -/
abbrev It := Cx → Nat → Nat → List MV → Sg → (List (List D) → Sg → Prop) → Prop
inductive Fl where
  | next
  | ret (d : D)
abbrev S := Cx → Nat → List MV → Sg → (Fl → List MV → Sg → Prop) → Prop
abbrev mEval (X : Cx) (n : Nat) (e : E) := e X n
abbrev mL (X : Cx) (n : Nat) (l : L) := l X n
abbrev mIt (X : Cx) (n : Nat) (it : It) := it X n
abbrev mExec (X : Cx) (n : Nat) (s : S) := s X n
def mEvals (X : Cx) (n : Nat) : List E → List MV → Sg → (List D → Sg → Prop) → Prop
  | [], _, σ, Q => Q [] σ
  | e :: es, ρ, σ, Q => mEval X n e ρ σ fun d σ => mEvals X n es ρ σ fun ds σ => Q (d :: ds) σ
def mExecs (X : Cx) (n : Nat) : List S → List MV → Sg → (Fl → List MV → Sg → Prop) → Prop
  | [], ρ, σ, Q => Q .next ρ σ
  | s :: ss, ρ, σ, Q => mExec X n s ρ σ fun fl ρ' σ' => match fl with
      | .next => mExecs X n ss ρ' σ' Q
      | .ret d => Q (.ret d) ρ' σ'
def mCond (X : Cx) (n : Nat) : Option E → List MV → Sg → (D → Sg → Prop) → Prop
  | none, _, σ, Q => Q (.bool true) σ
  | some e, ρ, σ, Q => mEval X n e ρ σ Q
def E.cst (d : D) : E := fun _ _ _ σ Q => Q d σ
def E.var (i : Nat) : E := fun _ _ ρ σ Q => ∃ d, ρ.getD i .unb = .val d ∧ Q d σ
def E.bin (op : BOp) (a b : E) : E := fun X n ρ σ Q => a X n ρ σ fun x σ => b X n ρ σ fun y σ => binT op x y fun r => Q r σ
def E.neg (a : E) : E := fun X n ρ σ Q => a X n ρ σ fun x σ => ∃ i, x = .int i ∧ Q (.int (-i)) σ
def E.cmp (op : COp) (a b : E) : E := fun X n ρ σ Q => a X n ρ σ fun x σ => b X n ρ σ fun y σ => cmpT op x y fun r => Q (.bool r) σ
def E.cmp2 (o1 o2 : COp) (a b c : E) : E := fun X n ρ σ Q => a X n ρ σ fun x σ => b X n ρ σ fun y σ => cmpT o1 x y fun r => if r = true then c X n ρ σ fun z σ => cmpT o2 y z fun r' => Q (.bool r') σ else Q (.bool false) σ
def E.and_ (a b : E) : E := fun X n ρ σ Q => a X n ρ σ fun x σ => condT x (b X n ρ σ Q) (Q (.bool false) σ)
def E.or_ (a b : E) : E := fun X n ρ σ Q => a X n ρ σ fun x σ => condT x (Q (.bool true) σ) (b X n ρ σ Q)
def E.not_ (a : E) : E := fun X n ρ σ Q => a X n ρ σ fun x σ => notT x fun b => Q (.bool b) σ
def E.lst (l : L) : E := fun X n ρ σ Q => l X n ρ σ fun ds σ => Q (.lst ds) σ
def E.tupE (es : List E) : E := fun X n ρ σ Q => mEvals X n es ρ σ fun ds σ => ds.length ≤ 2 ^ 20 ∧ Q (.tup ds) σ
def E.idx (a i : E) : E := fun X n ρ σ Q => a X n ρ σ fun x σ => i X n ρ σ fun y σ => idxT x y fun r => Q r σ
def E.call (f : Str) (args : List E) : E := fun X n ρ σ Q => mEvals X n args ρ σ fun ds σ => CallSem X n f ds σ Q
def E.bi (b : Bi) (args : List E) : E := fun X n ρ σ Q => mEvals X n args ρ σ fun ds σ => biT b ds fun r => Q r σ
def E.borrow (xs : List Nat) (e : E) : E := fun X n ρ σ Q => e X n (frzAll ρ xs) empS fun d _ => d.atom = true ∧ Q d σ

/-- a comprehension over rows: cond and elt as transformers -/
def compT (cond elt : List MV → Sg → (D → Sg → Prop) → Prop) (ρ : List MV) (is : List Nat) : List (List D) → Sg → (List D → Sg → Prop) → Prop
  | [], σ, Q => Q [] σ
  | r :: rs, σ, Q => cond (setAll ρ is r) σ fun c σ => condT c
      (elt (setAll ρ is r) σ fun d σ => compT cond elt ρ is rs σ fun ds σ => Q (d :: ds) σ)
      (compT cond elt ρ is rs σ Q)

def L.disp (es : List E) : L := fun X n ρ σ Q => mEvals X n es ρ σ fun ds σ => ds.length ≤ 2 ^ 20 ∧ Q ds σ
def L.ofSeq (it : It) : L := fun X n ρ σ Q => it X n 1 ρ σ fun rows σ => rows.length ≤ 2 ^ 20 ∧ Q (rows.map fun r => r.headD .none) σ
def L.rep (e m : E) : L := fun X n ρ σ Q => e X n ρ σ fun d σ => m X n ρ σ fun k σ => ∃ i, k = .int i ∧ 0 ≤ i ∧ i ≤ 2 ^ 20 ∧ Q (List.replicate i.toNat d) σ
def L.upto (a h : E) : L := fun X n ρ σ Q => a X n ρ σ fun x σ => h X n ρ σ fun y σ => ∃ ds k, x = .lst ds ∧ y = .int k ∧ 0 ≤ k ∧ ds.length ≤ 2 ^ 20 ∧ Q (ds.take k.toNat) σ
def L.from_ (a h : E) : L := fun X n ρ σ Q => a X n ρ σ fun x σ => h X n ρ σ fun y σ => ∃ ds k, x = .lst ds ∧ y = .int k ∧ 0 ≤ k ∧ ds.length ≤ 2 ^ 20 ∧ Q (ds.drop k.toNat) σ
def L.comp (elt : E) (is : List Nat) (it : It) (cond : Option E) : L := fun X n ρ σ Q => it X n is.length ρ σ fun rows σ => rows.length ≤ 2 ^ 20 ∧ compT (mCond X n cond) (elt X n) ρ is rows σ Q
def L.cat (a b : E) : L := fun X n ρ σ Q => a X n ρ σ fun x σ => b X n ρ σ fun y σ => ∃ ds es, x = .lst ds ∧ y = .lst es ∧ (ds ++ es).length ≤ 2 ^ 20 ∧ Q (ds ++ es) σ
def L.borrow (xs : List Nat) (l : L) : L := fun X n ρ σ Q => l X n (frzAll ρ xs) empS fun ds _ => (ds.all D.atom) = true ∧ Q ds σ

/-- the rows that a for over data takes -/
inductive SeqR (k : Nat) : D → List (List D) → Prop
  | one (ds : List D) (h : k = 1) : SeqR k (.lst ds) (ds.map fun d => [d])
  | tup (ds : List D) (h : k = 1) : SeqR k (.tup ds) (ds.map fun d => [d])
  | many (rows : List (List D)) (h : k ≠ 1) (hr : ∀ r ∈ rows, r.length = k) : SeqR k (.lst (rows.map D.tup)) rows
def It.seq (e : E) : It := fun X n k ρ σ Q => e X n ρ σ fun x σ => ∃ rows, SeqR k x rows ∧ Q rows σ
def It.range (e : E) : It := fun X n k ρ σ Q => e X n ρ σ fun x σ => ∃ i, x = .int i ∧ k = 1 ∧ -(2 ^ 62) ≤ i ∧ i < 2 ^ 62 ∧ Q ((List.range i.toNat).map fun (j : Nat) => [D.int (j : Int)]) σ
def It.zip (a b : E) : It := fun X n k ρ σ Q => a X n ρ σ fun x σ => b X n ρ σ fun y σ => ∃ ds es, x = .lst ds ∧ y = .lst es ∧ k = 2 ∧ Q ((ds.zip es).map fun p => [p.1, p.2]) σ
def It.enum (e : E) : It := fun X n k ρ σ Q => e X n ρ σ fun x σ => ∃ ds, x = .lst ds ∧ k = 2 ∧ Q (ds.mapIdx fun (i : Nat) d => [D.int (i : Int), d]) σ

/-- the turns of a for -/
def forT (bd : List MV → Sg → (Fl → List MV → Sg → Prop) → Prop) (is : List Nat) : List (List D) → List MV → Sg → (Fl → List MV → Sg → Prop) → Prop
  | [], ρ, σ, Q => Q .next ρ σ
  | r :: rs, ρ, σ, Q => ∃ P : Fl → List MV → Sg → Prop, bd (setAll ρ is r) σ P ∧ (∀ d ρ' σ', P (.ret d) ρ' σ' → Q (.ret d) ρ' σ') ∧ ∀ ρ' σ', P .next ρ' σ' → forT bd is rs ρ' σ' Q

def S.asg (i : Nat) (e : E) : S := fun X n ρ σ Q => e X n ρ σ fun d σ => Q .next (ρ.set i (.val d)) σ
def S.asgM (i : Nat) (l : L) : S := fun X n ρ σ Q => l X n ρ σ fun ds σ => Q .next (ρ.set i (.mt ds)) σ
def S.unp (is : List Nat) (e : E) : S := fun X n ρ σ Q => e X n ρ σ fun d σ => ∃ ds, d = .tup ds ∧ ds.length = is.length ∧ Q .next (setAll ρ is ds) σ
def S.app (i : Nat) (e : E) : S := fun X n ρ σ Q => ∃ ds, ρ.getD i .unb = .mt ds ∧ ds.length ≤ 2 ^ 20 ∧ e X n ρ σ fun d σ => Q .next (ρ.set i (.mt (ds ++ [d]))) σ
def S.appPop (i j : Nat) (e : E) : S := fun X n ρ σ Q => ∃ ds es, i ≠ j ∧ ρ.getD i .unb = .mt ds ∧ ρ.getD j .unb = .mt es ∧ ds.length ≤ 2 ^ 20 ∧ es.length ≤ 2 ^ 20 ∧ e X n ρ σ fun k σ =>
      ∃ t d, k = .int t ∧ 0 ≤ t ∧ es[t.toNat]? = some d ∧ Q .next ((ρ.set j (.mt (es.eraseIdx t.toNat))).set i (.mt (ds ++ [d]))) σ
def S.setI (i : Nat) (k e : E) : S := fun X n ρ σ Q => ∃ ds, ρ.getD i .unb = .mt ds ∧ ds.length ≤ 2 ^ 20 ∧ e X n ρ σ fun d σ => k X n ρ σ fun t σ =>
      ∃ j, t = .int j ∧ 0 ≤ j ∧ j < ds.length ∧ Q .next (ρ.set i (.mt (ds.set j.toNat d))) σ
def S.iff (c : E) (t f : List S) : S := fun X n ρ σ Q => c X n ρ σ fun b σ => condT b (mExecs X n t ρ σ Q) (mExecs X n f ρ σ Q)
def S.for_ (is : List Nat) (it : It) (body : List S) : S := fun X n ρ σ Q => it X n is.length ρ σ fun rows σ => forT (mExecs X n body) is rows ρ σ Q
def S.ret (e : E) : S := fun X n ρ σ Q => e X n ρ σ fun d σ => Q (.ret d) ρ σ
def S.expr (e : E) : S := fun X n ρ σ Q => e X n ρ σ fun _ σ => Q .next ρ σ
def S.pass : S := fun _ _ ρ σ Q => Q .next ρ σ
def S.freeze (i : Nat) : S := fun _ _ ρ σ Q => ∃ ds, ρ.getD i .unb = .mt ds ∧ Q .next (ρ.set i (.val (.lst ds))) σ
end Mine
set_option maxRecDepth 10000
namespace Mine
open PySem
def look (env : Env) (m cm : Str → Option Value) (x : Str) : Option Value := match env.kindOf x with
  | some .local => m x
  | some .cell => cm x
  | some .free => cm x
  | _ => none
def acc (env : Env) (x : Str) : Prop := env.kindOf x = some .local ∨ env.kindOf x = some .cell ∨ env.kindOf x = some .free

def VRel (Φ : Fz) (h : Heap) (ov : Option Value) (μi : Option Addr) : MV → Prop
  | .unb => μi = none
  | .val d => μi = none ∧ ∃ v, ov = some v ∧ Rd Φ v d
  | .mt ds => ∃ a vs, μi = some a ∧ ov = some (.ref a) ∧ h.PlainList a vs ∧ RdAll Φ vs.toList ds

def Own (env : Env) (μ : Nat → Option Addr) (a : Addr) : Prop := a = env.locals ∨ (∃ n, (n, a) ∈ env.cells) ∨ ∃ i, μ i = some a

structure FrameX (g : Heap) (env : Env) (names : List Str) (ρ : List MV) (σ : Sg) (Φ : Fz) (h : Heap) (m cm : Str → Option Value) (μ : Nat → Option Addr) : Prop where
  nd : names.Nodup
  len : ρ.length = names.length
  ns : h.Ns env.locals m
  cell : ∀ n c, env.cells.lookup n = some c → h.IsCell c (cm n)
  cellsIn : ∀ n c, (n, c) ∈ env.cells → ∃ o, h.get? c = some o
  hasCell : ∀ x, env.kindOf x = some .cell ∨ env.kindOf x = some .free → (env.cells.lookup x).isSome = true
  apart : env.cells.Pairwise fun x y => x.2 ≠ y.2
  offc : ∀ n c, (n, c) ∈ env.cells → c ≠ env.locals
  priv : ∀ a, Own env μ a → σ a = none ∧ Φ a = none ∧ g.get? a = none
  vars : ∀ i x, names[i]? = some x → acc env x → VRel Φ h (look env m cm x) (μ i) (ρ.getD i .unb)
  inj : ∀ i j a, μ i = some a → μ j = some a → i = j
  offm : ∀ i a, μ i = some a → a ≠ env.locals ∧ ∀ n, (n, a) ∉ env.cells
  live : ∀ i a, μ i = some a → ∃ o, h.get? a = some o

def Frame (g : Heap) (env : Env) (names : List Str) (ρ : List MV) (σ : Sg) (Φ : Fz) (h : Heap) : Prop := ∃ m cm μ, FrameX g env names ρ σ Φ h m cm μ

structure EnvOk (env : Env) : Prop where
  kind : env.scope.kind = .function
  glob : env.globals = mainGlobals
  blt : env.builtins = builtinsNs

/-- the built-in names that the texts use -/
def bNames : List (Str × Value) := [("len", .builtin "len"), ("sum", .builtin "sum"), ("min", .builtin "min"), ("max", .builtin "max"), ("sorted", .builtin "sorted"), ("isinstance", .builtin "isinstance"),
  ("range", .type "range"), ("list", .type "list"), ("tuple", .type "tuple"), ("int", .type "int"), ("bool", .type "bool"), ("zip", .type "zip"), ("enumerate", .type "enumerate")]

/-- the ground: what the program's top has left -/
structure Gnd (X : Cx) : Prop where
  gl : X.g.Ns mainGlobals X.mg
  bl : X.g.Ns builtinsNs X.mb
  lim : X.g.NoLimit
  blt : ∀ p ∈ bNames, X.mg p.1 = none ∧ X.mb p.1 = some p.2

theorem VRel.mono {Φ Φ' : Fz} {h h' : Heap} {ov : Option Value} {μi : Option Addr} {mv : MV} (hl : Fz.le Φ Φ') (hh : ∀ a o, μi = some a → h.get? a = some o → h'.get? a = some o) (x : VRel Φ h ov μi mv) : VRel Φ' h' ov μi mv := by
  cases mv with
  | unb => exact x
  | val d => obtain ⟨h1, v, h2, h3⟩ := x; exact ⟨h1, v, h2, h3.mono hl⟩
  | mt ds => obtain ⟨a, vs, h1, h2, h3, h4⟩ := x; exact ⟨a, vs, h1, h2, h3.at fun o e => hh a o h1 e, h4.mono hl⟩

theorem FrameX.step {X : Cx} {env : Env} {names : List Str} {ρ : List MV} {σ σ' : Sg} {Φ Φ' : Fz} {s s' : Shared} {m cm : Str → Option Value} {μ : Nat → Option Addr}
    (F : FrameX X.g env names ρ σ Φ s.heap m cm μ) (x : Step X.g s s' Φ Φ' σ σ') : FrameX X.g env names ρ σ' Φ' s'.heap m cm μ := by
  have own : ∀ a o, Own env μ a → s.heap.get? a = some o → s'.heap.get? a = some o := fun a o h e => x.keep a o e (F.priv a h).1
  have hin : ∀ a, Own env μ a → ∃ o, s.heap.get? a = some o := fun a h => by
    rcases h with h | ⟨n, h⟩ | ⟨i, h⟩
    · subst h; obtain ⟨o, _, _, ho, _⟩ := F.ns; exact ⟨o, ho⟩
    · exact F.cellsIn n a h
    · exact F.live i a h
  exact {
    nd := F.nd
    len := F.len
    ns := F.ns.at' fun o e => own _ o (.inl rfl) e
    cell := fun n c hc => let ⟨o, ho, hd⟩ := F.cell n c hc; ⟨o, own c o (.inr (.inl ⟨n, mem_of_lookup hc⟩)) ho, hd⟩
    cellsIn := fun n c hc => let ⟨o, ho⟩ := F.cellsIn n c hc; ⟨o, own c o (.inr (.inl ⟨n, hc⟩)) ho⟩
    hasCell := F.hasCell
    apart := F.apart
    offc := F.offc
    priv := fun a h => let ⟨o, ho⟩ := hin a h; let p := F.priv a h; ⟨x.outS ho p.1, x.outF ho p.1 p.2.1, p.2.2⟩
    vars := fun i n hn ha => (F.vars i n hn ha).mono x.mono fun a o e ho => own a o (.inr (.inr ⟨i, e⟩)) ho
    inj := F.inj
    offm := F.offm
    live := fun i a e => let ⟨o, ho⟩ := F.live i a e; ⟨o, own a o (.inr (.inr ⟨i, e⟩)) ho⟩ }

theorem Frame.step {X : Cx} {env : Env} {names : List Str} {ρ : List MV} {σ σ' : Sg} {Φ Φ' : Fz} {s s' : Shared}
    (F : Frame X.g env names ρ σ Φ s.heap) (x : Step X.g s s' Φ Φ' σ σ') : Frame X.g env names ρ σ' Φ' s'.heap :=
  let ⟨m, cm, μ, f⟩ := F; ⟨m, cm, μ, f.step x⟩

def SE (X : Cx) (n : Nat) (sc : Scope) (names : List Str) (x : Expr) (e : E) : Prop :=
  ∀ env A s Φ ρ σ Q, env.scope = sc → EnvOk env → Room n A → Ok X.g σ Φ s.heap → Frame X.g env names ρ σ Φ s.heap → mEval X n e ρ σ Q →
    wpAny (model X.prog X.w) A (eval x env) (Ev X s Φ σ Q) No s
def ST (X : Cx) (n : Nat) (sc : Scope) (names : List Str) (x : Expr) (e : E) : Prop :=
  ∀ env A s Φ ρ σ (Q : D → Sg → Prop) (P : Bool → Sg → Prop), env.scope = sc → EnvOk env → Room n A → Ok X.g σ Φ s.heap → Frame X.g env names ρ σ Φ s.heap → (∀ d σ, Q d σ → ∃ c, d = .bool c ∧ P c σ) → mEval X n e ρ σ Q →
    wpAny (model X.prog X.w) A (isTrue x env (eval x env)) (fun b s' => ∃ σ' Φ', Step X.g s s' Φ Φ' σ σ' ∧ P b σ') No s
def SEs (X : Cx) (n : Nat) (sc : Scope) (names : List Str) (xs : List Expr) (es : List E) : Prop :=
  ∀ env A s Φ ρ σ Q pos, env.scope = sc → EnvOk env → Room n A → Ok X.g σ Φ s.heap → Frame X.g env names ρ σ Φ s.heap → mEvals X n es ρ σ Q →
    wpAny (model X.prog X.w) A (spliced (backTo pos (starEach xs env))) (Evs X s Φ σ Q) No s
def SL (X : Cx) (n : Nat) (sc : Scope) (names : List Str) (x : Expr) (l : L) : Prop :=
  ∀ env A s Φ ρ σ Q, env.scope = sc → EnvOk env → Room n A → Ok X.g σ Φ s.heap → Frame X.g env names ρ σ Φ s.heap → mL X n l ρ σ Q →
    wpAny (model X.prog X.w) A (eval x env) (Evl X s Φ σ Q) No s

section
variable {X : Cx} {n : Nat} {sc : Scope} {names : List Str}

/-- a constant -/
theorem SE_none {k : Nat} {pos : Pos} : SE X n sc names (.Constant .none k pos) (.cst .none) := fun _ _ _ _ _ _ _ _ _ _ ok _ h =>
  PyProof.Rows.Constant_none ⟨_, _, _, Step.refl ok, .none, h⟩
theorem SE_bool {b : Bool} {k : Nat} {pos : Pos} : SE X n sc names (.Constant (.bool b) k pos) (.cst (.bool b)) := fun _ _ _ _ _ _ _ _ _ _ ok _ h =>
  PyProof.Rows.Constant_bool ⟨_, _, _, Step.refl ok, .bool b, h⟩
theorem SE_int {i : Int} {k : Nat} {pos : Pos} : SE X n sc names (.Constant (.int i) k pos) (.cst (.int i)) := fun _ _ _ _ _ _ _ _ _ _ ok _ h =>
  wpAny_Constant_int ⟨_, _, _, Step.tok ok _, .int i _, h⟩
theorem Env.kindOf_sc {env : Env} (h : env.scope = sc) (x : Str) : env.kindOf x = sc.names.lookup x := by rw [← h]; rfl

/-- loading a name whose value is known -/
theorem load_var {env : Env} {A : Around} {s : Shared} {m cm : Str → Option Value} {μ : Nat → Option Addr} {ρ : List MV} {σ : Sg} {Φ : Fz} {x : Str} {pos : Pos} {v : Value} {Q : Value → Shared → Prop}
    (eo : EnvOk env) (F : FrameX X.g env names ρ σ Φ s.heap m cm μ) (ha : acc env x) (hv : look env m cm x = some v) (hd : (x == ("__debug__" : Str)) = false) (hcd : (x == ("__classdict__" : Str)) = false)
    (h : Q v s) : wpAny (model X.prog X.w) A (eval (.Name x pos) env) Q No s := by
  refine wpAny_Name ?_ hd
  rcases ha with ha | ha | ha
  · simp only [look, ha] at hv
    exact wpAny_loadName_local eo.kind ha F.ns hv h
  · simp only [look, ha] at hv
    obtain ⟨c, hc⟩ := Option.isSome_iff_exists.mp (F.hasCell x (.inl ha))
    exact wpAny_loadName_cell eo.kind ha hc (hv ▸ F.cell x c hc) h
  · simp only [look, ha] at hv
    obtain ⟨c, hc⟩ := Option.isSome_iff_exists.mp (F.hasCell x (.inr ha))
    exact wpAny_loadName_free eo.kind ha hc (hv ▸ F.cell x c hc) h hcd

def accS (sc : Scope) (x : Str) : Bool := match sc.names.lookup x with
  | some .local => true
  | some .cell => true
  | some .free => true
  | _ => false
theorem acc_of {env : Env} (he : env.scope = sc) {x : Str} (h : accS sc x = true) : acc env x := by
  unfold acc
  rw [Env.kindOf_sc he]
  unfold accS at h
  split at h
  · exact .inl (by assumption)
  · exact .inr (.inl (by assumption))
  · exact .inr (.inr (by assumption))
  · cases h
def plainName (x : Str) : Bool := !(x == ("__debug__" : Str)) && !(x == ("__classdict__" : Str))

theorem SE_var {i : Nat} {x : Str} {pos : Pos} (hi : names[i]? = some x) (ha : accS sc x = true) (hp : plainName x = true) : SE X n sc names (.Name x pos) (.var i) := by
  intro env A s Φ ρ σ Q he eo _ ok F h
  obtain ⟨m, cm, μ, F⟩ := F
  have hv := F.vars i x hi (acc_of he ha)
  simp only [plainName, Bool.and_eq_true, Bool.not_eq_true'] at hp
  obtain ⟨d, e, h⟩ := h
  rw [e] at hv
  obtain ⟨_, v, h1, h2⟩ := hv
  exact load_var eo F (acc_of he ha) h1 hp.1 hp.2 ⟨d, σ, Φ, Step.refl ok, h2, h⟩

theorem SEs_nil : SEs X n sc names [] [] := fun _ _ _ _ _ _ _ _ _ _ _ ok _ h => Calls.spliced_nil ⟨_, _, _, Step.refl ok, .nil, h⟩

def notStar : Expr → Bool
  | .Starred .. => false
  | _ => true
theorem starEach_cons {x : Expr} {xs : List Expr} {env : Env} (h : notStar x = true) : starEach (x :: xs) env = (false, eval x env) :: starEach xs env := by
  cases x <;> first | rfl | cases h
theorem SEs_cons {x : Expr} {xs : List Expr} {e : E} {es : List E} (hx : SE X n sc names x e) (hxs : SEs X n sc names xs es) (hs : notStar x = true) : SEs X n sc names (x :: xs) (e :: es) := by
  intro env A s Φ ρ σ Q pos he eo hr ok F h
  simp only [mEvals] at h
  rw [starEach_cons hs]
  show wpAny _ A (spliced ((false, eval x env) :: backTo pos (starEach xs env))) _ _ s
  refine Calls.spliced_cons (wpAny_mono (hx env A s Φ ρ σ _ he eo hr ok F h) ?_ fun _ _ h => h.elim)
  rintro v s₁ ⟨d, σ₁, Φ₁, st, r, q⟩
  refine wpAny_mono (hxs env A s₁ Φ₁ ρ σ₁ _ pos he eo hr st.ok (F.step st) q) ?_ fun _ _ h => h.elim
  rintro vs s₂ ⟨ds, σ₂, Φ₂, st₂, r₂, q₂⟩
  exact ⟨_, σ₂, Φ₂, st.trans st₂, .cons (r.mono st₂.mono) r₂, q₂⟩
end
end Mine
set_option maxRecDepth 10000
namespace Mine
open PySem PyProof.Rows
theorem small_bits {i : Int} (h : small i) : Builtin.Int.intBits i ≤ 64 := by
  obtain ⟨h1, h2⟩ := h
  exact intBits_le_64 (by omega) (by omega)
theorem small_log {i : Int} (h : small i) : i.natAbs.log2 < 9000 := by
  obtain ⟨h1, h2⟩ := h
  by_cases h0 : i.natAbs = 0
  · rw [h0]; decide +kernel
  · have : i.natAbs.log2 < 65 := (Nat.log2_lt h0).mpr (by omega)
    omega

mutual
/-- frozen data are read by the library's own relation -/
theorem Rd.reads {Φ : Fz} {h : Heap} (hk : ∀ b o, Φ b = some o → h.get? b = some o) : ∀ {v : Value} {d : D} (n : Nat), Rd Φ v d → d.ok n = true → ∃ as, Reads h v d.py as
  | _, _, _, .none, _ => ⟨_, by simpa [D.py] using Reads.none⟩
  | _, _, _, .bool b, _ => ⟨_, by simpa [D.py] using Reads.bool b⟩
  | _, _, _, .int i t, _ => ⟨_, by simpa [D.py] using Reads.int i t⟩
  | _, _, _, .str x t, _ => ⟨_, by simpa [D.py] using Reads.str x t⟩
  | _, _, 0, .tup _ _ _ _, hn => by simp [D.ok] at hn
  | _, _, 0, .lst _ _ _ _, hn => by simp [D.ok] at hn
  | _, _, n, .ref _, hn => by cases n <;> simp [D.ok] at hn
  | _, _, n + 1, .tup ho hc hd r, hn => by
    obtain ⟨as, q⟩ := RdAll.reads hk n r (by simpa [D.ok] using hn)
    rw [D.py]
    exact ⟨as, Reads.tuple (hk _ _ ho) hc hd q⟩
  | _, _, n + 1, .lst ho hc hd r, hn => by
    obtain ⟨as, q⟩ := RdAll.reads hk n r (by simpa [D.ok] using hn)
    rw [D.py]
    exact ⟨_, Reads.list (hk _ _ ho) hc hd q⟩
theorem RdAll.reads {Φ : Fz} {h : Heap} (hk : ∀ b o, Φ b = some o → h.get? b = some o) : ∀ {vs : List Value} {ds : List D} (n : Nat), RdAll Φ vs ds → (∀ d ∈ ds, d.ok n = true) → ∃ as, ReadsAll h vs (D.pys ds) as
  | _, _, _, .nil, _ => ⟨_, by rw [D.pys]; exact ReadsAll.nil⟩
  | _, _, n, .cons hd r, hn => by
    obtain ⟨as, q⟩ := Rd.reads hk n hd (hn _ (.head _))
    obtain ⟨bs, p⟩ := RdAll.reads hk n r fun d hm => hn d (.tail _ hm)
    rw [D.pys]
    exact ⟨_, ReadsAll.cons q p⟩
end
theorem ok_lay : ∀ (n : Nat) (d : D), d.ok n = true → d.py.canLay0 = true ∧ d.py.depth ≤ n := by
  have all : ∀ (n : Nat), (∀ d : D, d.ok n = true → d.py.canLay0 = true ∧ d.py.depth ≤ n) → ∀ ds : List D, (∀ d ∈ ds, d.ok n = true) → PyData.canLayAll0 (D.pys ds) = true ∧ PyData.depthAll (D.pys ds) ≤ n := by
    intro n ih ds
    induction ds with
    | nil => intro _; simp [D.pys, PyData.canLayAll0, PyData.depthAll]
    | cons d ds hi =>
      intro h
      have h1 := ih d (h d (.head _))
      have h2 := hi fun e he => h e (.tail _ he)
      simp only [D.pys, PyData.canLayAll0, PyData.depthAll, h1.1, h2.1, Bool.and_self, true_and]
      have a1 := h1.2
      have a2 := h2.2
      omega
  intro n
  induction n with
  | zero =>
    intro d h
    cases d <;> simp_all [D.ok, D.py, PyData.canLay0, PyData.depth]
  | succ n ih =>
    intro d h
    cases d with
    | none => simp [D.py, PyData.canLay0, PyData.depth]
    | bool b => simp [D.py, PyData.canLay0, PyData.depth]
    | int i => simp [D.py, PyData.canLay0, PyData.depth]
    | str x => simp [D.ok] at h; simp [D.py, PyData.canLay0, PyData.depth, h]
    | tup ds =>
      have q := all n ih ds (by simpa [D.ok] using h)
      have q2 := q.2
      simp only [D.py, PyData.canLay0, PyData.depth, q.1, true_and]
      omega
    | lst ds =>
      have q := all n ih ds (by simpa [D.ok] using h)
      have q2 := q.2
      simp only [D.py, PyData.canLay0, PyData.depth, q.1, true_and]
      omega
    | ref a => simp [D.ok] at h

theorem ok_shaped {n : Nat} {d : D} (h : d.ok n = true) (hn : n ≤ 64) : SeqAt.shaped d.py = true := by
  have q := ok_lay n d h
  unfold SeqAt.shaped
  rw [q.1, Bool.true_and]
  exact decide_eq_true (Nat.le_trans q.2 hn)

theorem pys_any (ds : List D) (d : D) : ((D.pys ds).any fun y => PyData.eqv y d.py) = ds.any fun y => eqv y d := by
  induction ds with
  | nil => rfl
  | cons x ds ih => simp only [D.pys, List.any_cons, ih, eqv]

section
variable {X : Cx} {n : Nat} {sc : Scope} {names : List Str}

def opOf : BOp → Operator
  | .add => .Add
  | .sub => .Sub
  | .mul => .Mult
  | .fdiv => .FloorDiv
  | .mod => .Mod

theorem bin_sound {op : BOp} {A : Around} {s : Shared} {a b : Value} {x y : D} {Φ : Fz} {σ : Sg} {Q : D → Sg → Prop} (ok : Ok X.g σ Φ s.heap) (ra : Rd Φ a x) (rb : Rd Φ b y)
    (h : binT op x y fun r => Q r σ) : wpAny (model X.prog X.w) A (binaryOp (opOf op) a b) (Ev X s Φ σ Q) No s := by
  obtain ⟨r, hr, h⟩ := h
  cases hr <;> cases ra <;> cases rb
  · exact add_int ⟨_, _, _, Step.tok ok _, .int _ _, h⟩
  · exact sub_int ⟨_, _, _, Step.tok ok _, .int _ _, h⟩
  · rename_i hm _ _
    refine mul_int ⟨_, _, _, Step.tok ok _, .int _ _, h⟩ ?_
    rcases hm with h | h
    · exact IntMulOk.of_left (small_bits h)
    · exact IntMulOk.of_right (small_bits h)
  · rename_i h0 h1 _ _; exact floordiv_int h0 ⟨_, _, _, Step.tok ok _, .int _ _, h⟩ (Or.inl (PyProof.noPylong_of_log2 (small_log h1)))
  · rename_i h0 _ _; exact mod_int' h0 ⟨_, _, _, Step.tok ok _, .int _ _, h⟩

theorem SE_bin {op : BOp} {o : Operator} {l r : Expr} {a b : E} {pos : Pos} (ho : opOf op = o) (hl : SE X n sc names l a) (hr : SE X n sc names r b) : SE X n sc names (.BinOp l o r pos) (.bin op a b) := by
  intro env A s Φ ρ σ Q he eo hroom ok F h
  subst ho
  refine wpAny_BinOp (wpAny_mono (hl env A s Φ ρ σ _ he eo hroom ok F h) ?_ fun _ _ h => h.elim)
  rintro v s₁ ⟨d, σ₁, Φ₁, st, r, q⟩
  refine wpAny_mono (hr env A s₁ Φ₁ ρ σ₁ _ he eo hroom st.ok (F.step st) q) ?_ fun _ _ h => h.elim
  rintro v₂ s₂ ⟨d₂, σ₂, Φ₂, st₂, r₂, q₂⟩
  refine wpAny_mono (bin_sound (Q := Q) st₂.ok (r.mono st₂.mono) r₂ q₂) ?_ fun _ _ h => h.elim
  rintro v₃ s₃ ⟨d₃, σ₃, Φ₃, st₃, r₃, q₃⟩
  exact ⟨d₃, σ₃, Φ₃, (st.trans st₂).trans st₃, r₃, q₃⟩

def cmpOf : COp → CmpOp
  | .lt => .Lt | .le => .LtE | .gt => .Gt | .ge => .GtE | .eq => .Eq | .ne => .NotEq | .is_ => .Is | .isn => .IsNot | .in_ => .In | .nin => .NotIn

theorem cmp_sound {op : COp} {A : Around} {s : Shared} {a b : Value} {x y : D} {Φ : Fz} {σ : Sg} {P : Bool → Prop} (hr : Room n A) (ok : Ok X.g σ Φ s.heap) (ra : Rd Φ a x) (rb : Rd Φ b y)
    (h : cmpT op x y P) : wpAny (model X.prog X.w) A (compareOp (cmpOf op) a b) (fun v s' => s' = s ∧ ∃ r, v = .bool r ∧ P r) No s := by
  have hk : ∀ b o, Φ b = some o → s.heap.get? b = some o := fun b o e => (ok.frz b o e).1
  have hu : A.units + 64 < cLine := by have := hr.2.2; omega
  obtain ⟨r, hc, h⟩ := h
  cases hc with
  | lt => cases ra; cases rb; exact lt_int ⟨rfl, _, rfl, h⟩
  | le => cases ra; cases rb; exact le_int ⟨rfl, _, rfl, h⟩
  | gt => cases ra; cases rb; exact gt_int ⟨rfl, _, rfl, h⟩
  | ge => cases ra; cases rb; exact ge_int ⟨rfl, _, rfl, h⟩
  | eq _ _ h1 h2 =>
    obtain ⟨as, qa⟩ := ra.reads hk 8 h1
    obtain ⟨bs, qb⟩ := rb.reads hk 8 h2
    exact eq_dataH qa qb (ok_shaped h1 (by decide)) (ok_shaped h2 (by decide)) hu ⟨rfl, _, rfl, h⟩
  | ne _ _ h1 h2 =>
    obtain ⟨as, qa⟩ := ra.reads hk 8 h1
    obtain ⟨bs, qb⟩ := rb.reads hk 8 h2
    exact ne_dataH qa qb (ok_shaped h1 (by decide)) (ok_shaped h2 (by decide)) hu ⟨rfl, _, rfl, h⟩
  | is_ =>
    cases rb
    refine is_none ⟨rfl, _, rfl, ?_⟩
    cases ra <;> exact h
  | isn =>
    cases rb
    refine isNot_none ⟨rfl, _, rfl, ?_⟩
    cases ra <;> exact h
  | in_ _ ds h1 h2 =>
    obtain ⟨as, qa⟩ := ra.reads hk 8 h1
    obtain ⟨bs, qb⟩ := rb.reads hk 9 h2
    have l := ok_lay 9 _ h2
    have l1 := ok_lay 8 _ h1
    rw [D.py] at qb l
    simp only [PyData.canLay0, PyData.depth] at l
    refine SeqAt.in_list_reads qb qa l.1 l1.1 ?_ ⟨rfl, _, rfl, by rw [pys_any]; exact h⟩
    have := Nat.min_le_right (PyData.depthAll (D.pys ds)) x.py.depth
    have := l1.2
    omega
  | nin _ ds h1 h2 =>
    obtain ⟨as, qa⟩ := ra.reads hk 8 h1
    obtain ⟨bs, qb⟩ := rb.reads hk 9 h2
    have l := ok_lay 9 _ h2
    have l1 := ok_lay 8 _ h1
    rw [D.py] at qb l
    simp only [PyData.canLay0, PyData.depth] at l
    refine SeqAt.notIn_list_reads qb qa l.1 l1.1 ?_ ⟨rfl, _, rfl, by rw [pys_any]; exact h⟩
    have := Nat.min_le_right (PyData.depthAll (D.pys ds)) x.py.depth
    have := l1.2
    omega

theorem SE_cmp {op : COp} {o : CmpOp} {l r : Expr} {a b : E} {pos : Pos} (ho : cmpOf op = o) (hl : SE X n sc names l a) (hr : SE X n sc names r b) (hm : behindInMarks o r = false) :
    SE X n sc names (.Compare l [o] [r] pos) (.cmp op a b) := by
  intro env A s Φ ρ σ Q he eo hroom ok F h
  subst ho
  refine wpAny_Compare1 (wpAny_mono (hl env A s Φ ρ σ _ he eo hroom ok F h) ?_ fun _ _ h => h.elim) hm
  rintro v s₁ ⟨d, σ₁, Φ₁, st, r, q⟩
  refine wpAny_mono (hr env A s₁ Φ₁ ρ σ₁ _ he eo hroom st.ok (F.step st) q) ?_ fun _ _ h => h.elim
  rintro v₂ s₂ ⟨d₂, σ₂, Φ₂, st₂, r₂, q₂⟩
  refine wpAny_mono (cmp_sound hroom st₂.ok (r.mono st₂.mono) r₂ q₂) ?_ fun _ _ h => h.elim
  rintro _ _ ⟨rfl, b, rfl, q₃⟩
  exact ⟨_, σ₂, Φ₂, st.trans st₂, .bool b, q₃⟩

theorem ST_cmp {op : COp} {o : CmpOp} {l r : Expr} {a b : E} {pos : Pos} (ho : cmpOf op = o) (hl : SE X n sc names l a) (hr : SE X n sc names r b) (hm : behindInMarks o r = false) :
    ST X n sc names (.Compare l [o] [r] pos) (.cmp op a b) := by
  intro env A s Φ ρ σ Q P he eo hroom ok F hQ h
  subst ho
  refine wpAny_isTrue_Compare1 (wpAny_mono (hl env A s Φ ρ σ _ he eo hroom ok F h) ?_ fun _ _ h => h.elim) hm
  rintro v s₁ ⟨d, σ₁, Φ₁, st, r, q⟩
  refine wpAny_mono (hr env A s₁ Φ₁ ρ σ₁ _ he eo hroom st.ok (F.step st) q) ?_ fun _ _ h => h.elim
  rintro v₂ s₂ ⟨d₂, σ₂, Φ₂, st₂, r₂, q₂⟩
  refine wpAny_mono (cmp_sound hroom st₂.ok (r.mono st₂.mono) r₂ q₂) ?_ fun _ _ h => h.elim
  rintro _ _ ⟨rfl, b, rfl, q⟩
  obtain ⟨c, hc, q₃⟩ := hQ _ _ q
  cases hc
  exact wpAny_truthy_bool ⟨σ₂, Φ₂, st.trans st₂, q₃⟩

/-- a test that is no compare, no not, no and | or -/
def plainTest : Expr → Bool
  | .UnaryOp .Not .. => false
  | .BoolOp .. => false
  | .IfExp .. => false
  | .Compare .. => false
  | _ => true
theorem isTrue_eq {e : Expr} {env : Env} {whole : Sem Value} (h : plainTest e = true) : isTrue e env whole = (do let v ← whole; standAt e.pos; holding [v] (truthy v)) := by
  cases e with
  | UnaryOp op x p => cases op <;> first | rfl | cases h
  | BoolOp => cases h
  | IfExp => cases h
  | Compare => cases h
  | _ => rfl

theorem ST_plain {x : Expr} {e : E} (hx : SE X n sc names x e) (hp : plainTest x = true) : ST X n sc names x e := by
  intro env A s Φ ρ σ Q P he eo hroom ok F hQ h
  refine isTrue_plain (wpAny_mono (hx env A s Φ ρ σ _ he eo hroom ok F h) ?_ fun _ _ h => h.elim) (isTrue_eq hp)
  rintro v s₁ ⟨d, σ₁, Φ₁, st, r, q⟩
  obtain ⟨c, rfl, q'⟩ := hQ _ _ q
  cases r
  exact wpAny_truthy_bool ⟨σ₁, Φ₁, st, q'⟩

theorem ST_not {x : Expr} {e : E} {pos : Pos} (hx : ST X n sc names x e) : ST X n sc names (.UnaryOp .Not x pos) (.not_ e) := by
  intro env A s Φ ρ σ Q P he eo hroom ok F hQ h
  refine isTrue_not (wpAny_mono (hx env A s Φ ρ σ _ (fun b σ => P (!b) σ) he eo hroom ok F ?_ h) ?_ fun _ _ h => h.elim)
  · rintro d σ ⟨b, rfl, q⟩
    obtain ⟨c, hc, q⟩ := hQ _ _ q
    cases hc
    exact ⟨b, rfl, q⟩
  · rintro b s₁ ⟨σ₁, Φ₁, st, q⟩
    exact ⟨σ₁, Φ₁, st, q⟩

theorem SE_not {x : Expr} {e : E} {pos : Pos} (hx : SE X n sc names x e) : SE X n sc names (.UnaryOp .Not x pos) (.not_ e) := by
  intro env A s Φ ρ σ Q he eo hroom ok F h
  refine UnaryOp_ (wpAny_mono (hx env A s Φ ρ σ _ he eo hroom ok F h) ?_ fun _ _ h => h.elim)
  rintro v s₁ ⟨d, σ₁, Φ₁, st, r, b, rfl, q⟩
  cases r
  exact not_of (wpAny_truthy_bool ⟨_, σ₁, Φ₁, st, .bool _, q⟩)

/-- and, or: as values -/
theorem SE_one {op : BoolOp} {x : Expr} {e : E} {pos : Pos} (hx : SE X n sc names x e) : SE X n sc names (.BoolOp op [x] pos) e := by
  intro env A s Φ ρ σ Q he eo hroom ok F h
  exact BoolOp_one (hx env A s Φ ρ σ Q he eo hroom ok F h)
theorem SE_and {x y : Expr} {rest : List Expr} {a b : E} {pos : Pos} (hx : SE X n sc names x a) (hy : SE X n sc names (.BoolOp .And (y :: rest) pos) b) :
    SE X n sc names (.BoolOp .And (x :: y :: rest) pos) (.and_ a b) := by
  intro env A s Φ ρ σ Q he eo hroom ok F h
  refine BoolOp_and (wpAny_mono (hx env A s Φ ρ σ _ he eo hroom ok F h) ?_ fun _ _ h => h.elim)
  rintro v s₁ ⟨d, σ₁, Φ₁, st, r, c, rfl, q⟩
  cases r
  refine wpAny_truthy_bool ?_
  cases c with
  | false => exact ⟨_, σ₁, Φ₁, st, .bool false, q⟩
  | true =>
    refine wpAny_mono (hy env A s₁ Φ₁ ρ σ₁ _ he eo hroom st.ok (F.step st) q) ?_ fun _ _ h => h.elim
    rintro v₂ s₂ ⟨d₂, σ₂, Φ₂, st₂, r₂, q₂⟩
    exact ⟨_, σ₂, Φ₂, st.trans st₂, r₂, q₂⟩
/-- and, or: as tests -/
theorem ST_one_and {x : Expr} {e : E} {pos : Pos} (hx : ST X n sc names x e) : ST X n sc names (.BoolOp .And [x] pos) e := by
  intro env A s Φ ρ σ Q P he eo hroom ok F hQ h
  refine isTrue_and (wpAny_mono (hx env A s Φ ρ σ Q P he eo hroom ok F hQ h) ?_ fun _ _ h => h.elim)
  rintro b s₁ ⟨σ₁, Φ₁, st, q⟩
  cases b with
  | false => exact ⟨σ₁, Φ₁, st, q⟩
  | true => exact isTrue_and_nil ⟨σ₁, Φ₁, st, q⟩
theorem ST_one_or {x : Expr} {e : E} {pos : Pos} (hx : ST X n sc names x e) : ST X n sc names (.BoolOp .Or [x] pos) e := by
  intro env A s Φ ρ σ Q P he eo hroom ok F hQ h
  refine isTrue_or (wpAny_mono (hx env A s Φ ρ σ Q P he eo hroom ok F hQ h) ?_ fun _ _ h => h.elim)
  rintro b s₁ ⟨σ₁, Φ₁, st, q⟩
  cases b with
  | true => exact ⟨σ₁, Φ₁, st, q⟩
  | false => exact isTrue_or_nil ⟨σ₁, Φ₁, st, q⟩
theorem ST_and {x y : Expr} {rest : List Expr} {a b : E} {pos : Pos} (hx : ST X n sc names x a) (hy : ST X n sc names (.BoolOp .And (y :: rest) pos) b) :
    ST X n sc names (.BoolOp .And (x :: y :: rest) pos) (.and_ a b) := by
  intro env A s Φ ρ σ Q P he eo hroom ok F hQ h
  refine isTrue_and (wpAny_mono (hx env A s Φ ρ σ _ (fun c σ => if c = true then mEval X n b ρ σ Q else Q (.bool false) σ) he eo hroom ok F (fun _ _ h => h) h) ?_ fun _ _ h => h.elim)
  rintro c s₁ ⟨σ₁, Φ₁, st, q⟩
  cases c with
  | false =>
    obtain ⟨c, hc, q⟩ := hQ _ _ q
    cases hc
    exact ⟨σ₁, Φ₁, st, q⟩
  | true =>
    refine wpAny_mono (hy env A s₁ Φ₁ ρ σ₁ Q P he eo hroom st.ok (F.step st) hQ q) ?_ fun _ _ h => h.elim
    rintro b s₂ ⟨σ₂, Φ₂, st₂, q₂⟩
    exact ⟨σ₂, Φ₂, st.trans st₂, q₂⟩
theorem ST_or {x y : Expr} {rest : List Expr} {a b : E} {pos : Pos} (hx : ST X n sc names x a) (hy : ST X n sc names (.BoolOp .Or (y :: rest) pos) b) :
    ST X n sc names (.BoolOp .Or (x :: y :: rest) pos) (.or_ a b) := by
  intro env A s Φ ρ σ Q P he eo hroom ok F hQ h
  refine isTrue_or (wpAny_mono (hx env A s Φ ρ σ _ (fun c σ => if c = true then Q (.bool true) σ else mEval X n b ρ σ Q) he eo hroom ok F (fun _ _ h => h) h) ?_ fun _ _ h => h.elim)
  rintro c s₁ ⟨σ₁, Φ₁, st, q⟩
  cases c with
  | true =>
    obtain ⟨c, hc, q⟩ := hQ _ _ q
    cases hc
    exact ⟨σ₁, Φ₁, st, q⟩
  | false =>
    refine wpAny_mono (hy env A s₁ Φ₁ ρ σ₁ Q P he eo hroom st.ok (F.step st) hQ q) ?_ fun _ _ h => h.elim
    rintro b s₂ ⟨σ₂, Φ₂, st₂, q₂⟩
    exact ⟨σ₂, Φ₂, st.trans st₂, q₂⟩

/-- tuples and lists written out -/
theorem push_step {s : Shared} {σ : Sg} {Φ : Fz} (ok : Ok X.g σ Φ s.heap) (o : Obj) : Step X.g s { s with heap := s.heap.push o } Φ Φ σ σ :=
  Step.keeps (tk := s.toks) ok fun _ _ e => Heap.get?_push_of_some _ e

/-- an object just made, frozen at once -/
theorem made_tup {s s₁ : Shared} {σ σ₁ : Sg} {Φ Φ₁ : Fz} {vs : List Value} {ds : List D} {Q : D → Sg → Prop} (st : Step X.g s s₁ Φ Φ₁ σ σ₁) (r : RdAll Φ₁ vs ds) (q : Q (.tup ds) σ₁) :
    Ev X s Φ σ Q (.ref s₁.heap.objs.size) { s₁ with heap := s₁.heap.push { cls := .type "tuple", data := .seq vs.toArray } } := by
  have hn := size_none s₁.heap
  refine ⟨_, σ₁, _, (st.trans (push_step st.ok _)).freeze (st.live _ hn) (Heap.get?_push_size _ rfl) (st.ok.freshS hn) (st.ok.freshF hn), ?_, q⟩
  refine Rd.tup (Fz.put_self _ _ _) rfl rfl ?_
  simpa using r.mono (Fz.le_put (st.ok.freshF hn))

theorem SE_tup {xs : List Expr} {es : List E} {k : Nat} {pos : Pos} (hx : SEs X n sc names xs es) : SE X n sc names (.Tuple xs k pos) (.tupE es) := by
  intro env A s Φ ρ σ Q he eo hroom ok F h
  refine wpAny_Tuple (wpAny_mono (hx env A s Φ ρ σ _ pos he eo hroom ok F h) ?_ fun _ _ h => h.elim)
  rintro vs s₁ ⟨ds, σ₁, Φ₁, st, r, hlen, q⟩
  exact ⟨by rw [r.length]; unfold sizeLine; omega, made_tup st r q⟩
theorem SL_disp {xs : List Expr} {es : List E} {pos : Pos} (hx : SEs X n sc names xs es) : SL X n sc names (.List xs pos) (.disp es) := by
  intro env A s Φ ρ σ Q he eo hroom ok F h
  refine wpAny_List (wpAny_mono (hx env A s Φ ρ σ _ pos he eo hroom ok F h) ?_ fun _ _ h => h.elim)
  rintro vs s₁ ⟨ds, σ₁, Φ₁, st, r, hlen, q⟩
  have hsz : vs.length ≤ sizeLine := by rw [r.length]; unfold sizeLine; omega
  exact ⟨hsz, s₁.heap.objs.size, vs.toArray, ds, σ₁, Φ₁, rfl, st.trans (push_step st.ok _), st.live _ (size_none _), ⟨0, Heap.get?_push_size _ rfl⟩, st.ok.freshS (size_none _), st.ok.freshF (size_none _), by simpa using r, q⟩

/-- a list just made, frozen -/
theorem SE_lst {x : Expr} {l : L} (hx : SL X n sc names x l) : SE X n sc names x (.lst l) := by
  intro env A s Φ ρ σ Q he eo hroom ok F h
  refine wpAny_mono (hx env A s Φ ρ σ _ he eo hroom ok F h) ?_ fun _ _ h => h.elim
  rintro v s₁ ⟨a, vs, ds, σ₁, Φ₁, rfl, st, hn, ⟨k, ho⟩, h1, h2, r, q⟩
  exact ⟨_, σ₁, _, st.freeze hn ho h1 h2, .lst (Fz.put_self _ _ _) rfl rfl (r.mono (Fz.le_put h2)), q⟩
end
end Mine
set_option maxRecDepth 10000
namespace Mine
open PySem PyProof.Rows
section
variable {X : Cx} {n : Nat} {sc : Scope} {names : List Str}

theorem Ok.gkeep {σ : Sg} {Φ : Fz} {h : Heap} (ok : Ok X.g σ Φ h) : ∀ b o, X.g.get? b = some o → h.get? b = some o := fun b o e => (ok.base b o e).1

theorem name_blt {env : Env} {A : Around} {s : Shared} {σ : Sg} {Φ : Fz} {x : Str} {v : Value} {p : Pos} {Q : Value → Shared → Prop} (G : Gnd X) (ok : Ok X.g σ Φ s.heap) (eo : EnvOk env)
    (hx : env.kindOf x = some .globalImplicit) (hv : (x, v) ∈ bNames) (hd : (x == ("__debug__" : Str)) = false) (h : Q v s) : wpAny (model X.prog X.w) A (eval (.Name x p) env) Q No s := by
  have b := G.blt _ hv
  refine Calls.Name_function_global eo.kind hx (Calls.loadGlobal_builtin (mg := X.mg) (mb := X.mb) ?_ b.1 ?_ b.2 h) hd
  · rw [eo.glob]; exact G.gl.keeps ok.gkeep
  · rw [eo.blt]; exact G.bl.keeps ok.gkeep

theorem name_fn {env : Env} {A : Around} {s : Shared} {σ : Sg} {Φ : Fz} {x : Str} {v : Value} {p : Pos} {Q : Value → Shared → Prop} (G : Gnd X) (ok : Ok X.g σ Φ s.heap) (eo : EnvOk env)
    (hx : env.kindOf x = some .globalImplicit) (hv : X.mg x = some v) (hd : (x == ("__debug__" : Str)) = false) (h : Q v s) : wpAny (model X.prog X.w) A (eval (.Name x p) env) Q No s := by
  refine Calls.Name_function_global eo.kind hx (Calls.loadGlobal_global (mg := X.mg) ?_ hv h) hd
  rw [eo.glob]; exact G.gl.keeps ok.gkeep

theorem plain_star {pos : Pos} {env : Env} : ∀ (xs : List Expr), xs.all notStar = true → (backTo pos (starEach xs env)).any (·.1) = false
  | [], _ => rfl
  | x :: xs, h => by
    simp only [List.all_cons, Bool.and_eq_true] at h
    rw [starEach_cons h.1]
    show (false || (backTo pos (starEach xs env)).any (·.1)) = false
    rw [plain_star xs h.2]; rfl

/-- a call of a function of the text -/
theorem SE_call {f : Str} {x : Expr} {xs : List Expr} {es : List E} {p pos : Pos} (G : Gnd X) (hf : IsFn X f) (hx : SEs X n sc names (x :: xs) es) (hk : sc.names.lookup f = some .globalImplicit) (hs : (x :: xs).all notStar = true)
    (hd : (f == ("__debug__" : Str)) = false) : SE X n sc names (.Call (.Name f p) (x :: xs) [] pos) (.call f es) := by
  intro env A s Φ ρ σ Q he eo hroom ok F h
  have hkf : env.kindOf f = some .globalImplicit := by rw [Env.kindOf_sc he]; exact hk
  simp only [List.all_cons, Bool.and_eq_true] at hs
  refine Call_Name rfl ?_
  obtain ⟨a, o, fd, h1, h2, h3⟩ := hf
  refine name_fn G ok eo hkf h1 hd ?_
  refine callWith_def (o := o) (fd := fd) h3 (wpAny_mono (hx env A s Φ ρ σ _ pos he eo hroom ok F h) ?_ fun _ _ h => h.elim) (starEach_cons hs.1)
  rintro vs s₁ ⟨ds, σ₁, Φ₁, st, r, q⟩
  refine ⟨(st.ok.base _ _ h2).1, wpAny_mono (q a h1 A s₁ Φ₁ vs hroom st.ok r) ?_ fun _ _ h => h.elim⟩
  rintro v s₂ ⟨d, σ₂, Φ₂, st₂, r₂, q₂⟩
  exact ⟨d, σ₂, Φ₂, st.trans st₂, r₂, q₂⟩

/-- a call of a built-in: its arguments, then the call -/
theorem call_blt {f : Str} {fv : Value} {x : Expr} {xs : List Expr} {es : List E} {p pos : Pos} {env : Env} {A : Around} {s : Shared} {Φ : Fz} {ρ : List MV} {σ : Sg} {Qs : List D → Sg → Prop} {K : Value → Shared → Prop}
    (G : Gnd X) (hv : (f, fv) ∈ bNames) (hx : SEs X n sc names (x :: xs) es) (hk : sc.names.lookup f = some .globalImplicit) (hs : (x :: xs).all notStar = true)
    (he : env.scope = sc) (eo : EnvOk env) (hroom : Room n A) (ok : Ok X.g σ Φ s.heap) (F : Frame X.g env names ρ σ Φ s.heap) (h : mEvals X n es ρ σ Qs)
    (hc : ∀ vs s₁ ds σ₁ Φ₁, Step X.g s s₁ Φ Φ₁ σ σ₁ → RdAll Φ₁ vs ds → Qs ds σ₁ → wpAny (model X.prog X.w) A (call fv vs) K No s₁) :
    wpAny (model X.prog X.w) A (eval (.Call (.Name f p) (x :: xs) [] pos) env) K No s := by
  have hkf : env.kindOf f = some .globalImplicit := by rw [Env.kindOf_sc he]; exact hk
  simp only [List.all_cons, Bool.and_eq_true] at hs
  refine Call_Name rfl ?_
  have hd : (f == ("__debug__" : Str)) = false ∧ ((∃ id, fv = .builtin id) ∨ ∃ T, fv = .type T) := by
    simp only [bNames, List.mem_cons, Prod.mk.injEq, List.not_mem_nil, or_false] at hv
    rcases hv with ⟨rfl, rfl⟩ | ⟨rfl, rfl⟩ | ⟨rfl, rfl⟩ | ⟨rfl, rfl⟩ | ⟨rfl, rfl⟩ | ⟨rfl, rfl⟩ | ⟨rfl, rfl⟩ | ⟨rfl, rfl⟩ | ⟨rfl, rfl⟩ | ⟨rfl, rfl⟩ | ⟨rfl, rfl⟩ | ⟨rfl, rfl⟩ | ⟨rfl, rfl⟩ <;>
      first | exact ⟨by decide, .inl ⟨_, rfl⟩⟩ | exact ⟨by decide, .inr ⟨_, rfl⟩⟩
  refine name_blt G ok eo hkf hv hd.1 ?_
  have main : wpAny (model X.prog X.w) A (spliced (backTo pos (starEach (x :: xs) env))) (fun vs s₁ => wpAny (model X.prog X.w) A (call fv vs) K No s₁) No s := by
    refine wpAny_mono (hx env A s Φ ρ σ _ pos he eo hroom ok F h) ?_ fun _ _ h => h.elim
    rintro vs s₁ ⟨ds, σ₁, Φ₁, st, r, q⟩
    exact hc vs s₁ ds σ₁ Φ₁ st r q
  rcases hd.2 with ⟨id, rfl⟩ | ⟨T, rfl⟩
  · exact PyProof.Rows.callWith_builtin1 main (starEach_cons hs.1) (plain_star xs hs.2)
  · exact PyProof.Rows.callWith_type1 main (starEach_cons hs.1) (plain_star xs hs.2)

theorem Rd.isList {Φ : Fz} {σ : Sg} {h : Heap} {a : Addr} {ds : List D} (ok : Ok X.g σ Φ h) (r : Rd Φ (.ref a) (.lst ds)) : ∃ vs, h.IsList a vs ∧ RdAll Φ vs.toList ds ∧ Φ a ≠ Option.none := by
  cases r with
  | lst ho hc hd r => exact ⟨_, ⟨_, (ok.frz _ _ ho).1, hc, _, hd⟩, r, by rw [ho]; simp⟩
theorem Rd.isTup {Φ : Fz} {σ : Sg} {h : Heap} {a : Addr} {ds : List D} (ok : Ok X.g σ Φ h) (r : Rd Φ (.ref a) (.tup ds)) : ∃ vs, IsTup h a vs ∧ RdAll Φ vs.toList ds ∧ Φ a ≠ Option.none := by
  cases r with
  | tup ho hc hd r => exact ⟨_, ⟨_, (ok.frz _ _ ho).1, hc, _, hd⟩, r, by rw [ho]; simp⟩
theorem Rd.lst_ref {Φ : Fz} {v : Value} {ds : List D} (r : Rd Φ v (.lst ds)) : ∃ a, v = .ref a := by cases r; exact ⟨_, rfl⟩
theorem Rd.tup_ref {Φ : Fz} {v : Value} {ds : List D} (r : Rd Φ v (.tup ds)) : ∃ a, v = .ref a := by cases r; exact ⟨_, rfl⟩

theorem SE_len {x : Expr} {e : E} {p pos : Pos} (G : Gnd X) (hx : SE X n sc names x e) (hk : sc.names.lookup ("len" : Str) = some .globalImplicit) (hs : notStar x = true) :
    SE X n sc names (.Call (.Name "len" p) [x] [] pos) (.bi .len [e]) := by
  intro env A s Φ ρ σ Q he eo hroom ok F h
  refine call_blt G (f := "len") (fv := .builtin "len") (by simp [bNames]) (SEs_cons hx SEs_nil hs) hk (by simp [hs]) he eo hroom ok F h ?_
  intro vs s₁ ds σ₁ Φ₁ st r q
  obtain ⟨d, hd, q⟩ := q
  cases hd with
  | lenT ds hlen =>
    cases r with
    | cons r1 r2 =>
      cases r2
      obtain ⟨a, rfl⟩ := r1.tup_ref
      obtain ⟨vs, hl, ra, _⟩ := r1.isTup st.ok
      have e := ra.length
      simp only [Array.length_toList] at e
      refine PyProof.Rows.len_tuple hl (by omega) ?_
      exact ⟨_, σ₁, Φ₁, st.trans (Step.tok st.ok _), .int _ _, by rw [e]; exact q⟩
  | lenL ds hlen =>
    cases r with
    | cons r1 r2 =>
      cases r2
      obtain ⟨a, rfl⟩ := r1.lst_ref
      obtain ⟨vs, hl, ra, _⟩ := r1.isList st.ok
      have e := ra.length
      simp only [Array.length_toList] at e
      refine Calls.call_len_list hl (by omega) ?_
      exact ⟨_, σ₁, Φ₁, st.trans (Step.tok st.ok _), .int _ _, by rw [e]; exact q⟩

/-- isinstance against a built-in class -/
theorem SE_isi {T : String} {x : Expr} {e : E} {b : Bi} {p p' pos : Pos} (G : Gnd X) (hb : (b, T) ∈ [(Bi.isint, "int"), (Bi.isbool, "bool"), (Bi.islist, "list"), (Bi.istuple, "tuple")]) (hx : SE X n sc names x e)
    (hk : sc.names.lookup ("isinstance" : Str) = some .globalImplicit) (hT : sc.names.lookup (Str.ofString T) = some .globalImplicit) (hs : notStar x = true) :
    SE X n sc names (.Call (.Name "isinstance" p) [x, .Name (Str.ofString T) p'] [] pos) (.bi b [e]) := by
  intro env A s Φ ρ σ Q he eo hroom ok F h
  simp only [mEval, mEvals] at h
  have hTv : (Str.ofString T, Value.type T) ∈ bNames := by
    simp only [List.mem_cons, Prod.mk.injEq, List.not_mem_nil, or_false] at hb
    rcases hb with ⟨_, rfl⟩ | ⟨_, rfl⟩ | ⟨_, rfl⟩ | ⟨_, rfl⟩ <;> simp [bNames]
  have hTd : (Str.ofString T == ("__debug__" : Str)) = false := by
    simp only [List.mem_cons, Prod.mk.injEq, List.not_mem_nil, or_false] at hb
    rcases hb with ⟨_, rfl⟩ | ⟨_, rfl⟩ | ⟨_, rfl⟩ | ⟨_, rfl⟩ <;> decide
  refine Call_Name rfl ?_
  refine name_blt G ok eo (by rw [Env.kindOf_sc he]; exact hk) (v := .builtin "isinstance") (by simp [bNames]) (by decide) ?_
  refine PyProof.Rows.callWith_builtin1 ?_ (starEach_cons hs) (plain_star _ rfl)
  rw [starEach_cons hs]
  show wpAny _ A (spliced ((false, eval x env) :: (false, eval (.Name (Str.ofString T) p') env) :: [])) _ _ s
  refine Calls.spliced_cons (wpAny_mono (hx env A s Φ ρ σ _ he eo hroom ok F h) ?_ fun _ _ h => h.elim)
  rintro v s₁ ⟨d, σ₁, Φ₁, st, r, q⟩
  refine Calls.spliced_cons (name_blt G st.ok eo (by rw [Env.kindOf_sc he]; exact hT) hTv hTd ?_)
  refine Calls.spliced_nil ?_
  simp only [List.mem_cons, Prod.mk.injEq, List.not_mem_nil, or_false] at hb
  have fin0 : ∀ c, Q (.bool c) σ₁ → Ev X s Φ σ Q (.bool c) s₁ := fun c hc => ⟨_, σ₁, Φ₁, st, .bool c, hc⟩
  have fin1 : ∀ c, Q (.bool c) σ₁ → Ev X s Φ σ Q (.bool c) { s₁ with toks := s₁.toks + 1 } := fun c hc => ⟨_, σ₁, Φ₁, st.trans (Step.tok st.ok _), .bool c, hc⟩
  rcases hb with ⟨rfl, rfl⟩ | ⟨rfl, rfl⟩ | ⟨rfl, rfl⟩ | ⟨rfl, rfl⟩ <;> obtain ⟨d', hd', q⟩ := q <;> cases hd' <;> rename_i hq <;> cases r
  · exact IsiPair.NoneType_int (fin1 _ q)
  · exact IsiPair.bool_int (fin0 _ q)
  · exact IsiPair.int_int (fin0 _ q)
  · exact IsiPair.str_int (fin1 _ q)
  · rename_i ho hc hd _; exact IsiPair.tuple_int (st.ok.frz _ _ ho).1 hc (fin1 _ q)
  · rename_i ho hc hd _; exact IsiPair.list_int (st.ok.frz _ _ ho).1 hc (fin1 _ q)
  · exact absurd rfl (hq _)
  · exact IsiPair.NoneType_bool (fin1 _ q)
  · exact IsiPair.bool_bool (fin0 _ q)
  · exact IsiPair.int_bool (fin1 _ q)
  · exact IsiPair.str_bool (fin1 _ q)
  · rename_i ho hc hd _; exact IsiPair.tuple_bool (st.ok.frz _ _ ho).1 hc (fin1 _ q)
  · rename_i ho hc hd _; exact IsiPair.list_bool (st.ok.frz _ _ ho).1 hc (fin1 _ q)
  · exact absurd rfl (hq _)
  · exact IsiPair.NoneType_list (fin1 _ q)
  · exact IsiPair.bool_list (fin1 _ q)
  · exact IsiPair.int_list (fin1 _ q)
  · exact IsiPair.str_list (fin1 _ q)
  · rename_i ho hc hd _; exact IsiPair.tuple_list (st.ok.frz _ _ ho).1 hc (fin1 _ q)
  · rename_i ho hc hd _; exact IsiPair.list_list (st.ok.frz _ _ ho).1 hc (fin0 _ q)
  · exact absurd rfl (hq _)
  · exact IsiPair.NoneType_tuple (fin1 _ q)
  · exact IsiPair.bool_tuple (fin1 _ q)
  · exact IsiPair.int_tuple (fin1 _ q)
  · exact IsiPair.str_tuple (fin1 _ q)
  · rename_i ho hc hd _; exact IsiPair.tuple_tuple (st.ok.frz _ _ ho).1 hc (fin0 _ q)
  · rename_i ho hc hd _; exact IsiPair.list_tuple (st.ok.frz _ _ ho).1 hc (fin1 _ q)
  · exact absurd rfl (hq _)

/-- an item -/
def notSlice : Expr → Bool
  | .Slice .. => false
  | _ => true
theorem subscripted_eq {slice : Expr} {o i : Value} (h : notSlice slice = true) : subscripted slice false o i = operate [o, i] (getItem o i) := by
  cases slice <;> first | rfl | cases h

theorem seqIndex_nat {k : Int} {m : Nat} (h0 : 0 ≤ k) (h1 : k < m) : seqIndex? k m = some k.toNat := by
  unfold seqIndex?
  have hn : ¬ k < 0 := by omega
  simp only [hn, if_false]
  have : (decide (0 ≤ k) && decide (k < (m : Int))) = true := by simp; omega
  rw [if_pos this]

theorem SE_idx {x y : Expr} {a i : E} {pos : Pos} (hx : SE X n sc names x a) (hy : SE X n sc names y i) (hs : notSlice y = true) : SE X n sc names (.Subscript x y pos) (.idx a i) := by
  intro env A s Φ ρ σ Q he eo hroom ok F h
  refine Subscript_ (wpAny_mono (hx env A s Φ ρ σ _ he eo hroom ok F h) ?_ fun _ _ h => h.elim)
  rintro v s₁ ⟨d, σ₁, Φ₁, st, r, q⟩
  refine wpAny_mono (hy env A s₁ Φ₁ ρ σ₁ _ he eo hroom st.ok (F.step st) q) ?_ fun _ _ h => h.elim
  rintro w s₂ ⟨d₂, σ₂, Φ₂, st₂, r₂, q₂⟩
  have r' := r.mono st₂.mono
  obtain ⟨d₃, hd₃, q₃⟩ := q₂
  cases hd₃ with
  | tup ds k _ h0 h1 hd =>
    obtain ⟨a, rfl⟩ := r'.tup_ref
    obtain ⟨vs, hl, ra, _⟩ := r'.isTup st₂.ok
    obtain ⟨v, hv, rv⟩ := ra.get hd
    cases r₂ with
    | int _ t =>
      have hlt : k.toNat < vs.toList.length := by
        rcases Nat.lt_or_ge k.toNat vs.toList.length with h | h
        · exact h
        · rw [List.getElem?_eq_none h] at hv; cases hv
      refine tail_any hl.typeIs slot_tuple_getitem.lookup (getItem_tuple (j := k.toNat) hl (by omega) h1 ?_ (by simpa using hv) ⟨_, σ₂, Φ₂, st.trans st₂, rv, q₃⟩) (subscripted_eq hs)
      simp only [Array.length_toList] at hlt
      exact seqIndex_nat h0 (by omega)
  | lst ds k _ h0 h1 hd =>
    obtain ⟨a, rfl⟩ := r'.lst_ref
    obtain ⟨vs, hl, ra, _⟩ := r'.isList st₂.ok
    obtain ⟨v, hv, rv⟩ := ra.get hd
    cases r₂ with
    | int _ t =>
      exact tail_any hl.typeIs slot_list_getitem.lookup (wpAny_getItem_list hl h0 h1 (by simpa using hv) ⟨_, σ₂, Φ₂, st.trans st₂, rv, q₃⟩) (subscripted_eq hs)
end
end Mine
set_option maxRecDepth 10000
namespace Mine
open PySem PyProof.Rows
section
variable {X : Cx} {n : Nat} {sc : Scope} {names : List Str}

/-- a call of a built-in of one argument -/
theorem call_blt1 {f : Str} {fv : Value} {x : Expr} {e : E} {p pos : Pos} {env : Env} {A : Around} {s : Shared} {Φ : Fz} {ρ : List MV} {σ : Sg} {P : D → Sg → Prop} {K : Value → Shared → Prop}
    (G : Gnd X) (hv : (f, fv) ∈ bNames) (hx : SE X n sc names x e) (hk : sc.names.lookup f = some .globalImplicit) (hs : notStar x = true)
    (he : env.scope = sc) (eo : EnvOk env) (hroom : Room n A) (ok : Ok X.g σ Φ s.heap) (F : Frame X.g env names ρ σ Φ s.heap) (h : mEval X n e ρ σ P)
    (hc : ∀ v s₁ d σ₁ Φ₁, Step X.g s s₁ Φ Φ₁ σ σ₁ → Rd Φ₁ v d → P d σ₁ → wpAny (model X.prog X.w) A (call fv [v]) K No s₁) :
    wpAny (model X.prog X.w) A (eval (.Call (.Name f p) [x] [] pos) env) K No s := by
  refine call_blt (Qs := fun ds σ => ∃ d, ds = [d] ∧ P d σ) G hv (SEs_cons hx SEs_nil hs) hk (by simp [hs]) he eo hroom ok F ?_ ?_
  · simp only [mEvals, List.cons.injEq, and_true, exists_eq_left']; exact h
  · rintro vs s₁ _ σ₁ Φ₁ st r ⟨d, rfl, q⟩
    cases r with
    | cons r1 r2 => cases r2; exact hc _ s₁ d σ₁ Φ₁ st r1 q

/-- the post of a list that has been made at the end of the heap -/
theorem made_list {s s₁ s₂ : Shared} {σ σ₁ : Sg} {Φ Φ₁ : Fz} {a : Addr} {vs : Array Value} {ds : List D} {Q : List D → Sg → Prop} (st : Step X.g s s₁ Φ Φ₁ σ σ₁) (st₂ : Step X.g s₁ s₂ Φ₁ Φ₁ σ₁ σ₁)
    (hn : s₁.heap.get? a = none) (hl : s₂.heap.PlainList a vs) (r : RdAll Φ₁ vs.toList ds) (q : Q ds σ₁) : Evl X s Φ σ Q (.ref a) s₂ :=
  ⟨a, vs, ds, σ₁, Φ₁, rfl, st.trans st₂, st.live _ hn, hl, st.ok.freshS hn, st.ok.freshF hn, r, q⟩

theorem SL_list {x : Expr} {e : E} {p pos : Pos} (G : Gnd X) (hx : SE X n sc names x e) (hk : sc.names.lookup ("list" : Str) = some .globalImplicit) (hs : notStar x = true) :
    SL X n sc names (.Call (.Name "list" p) [x] [] pos) (.ofSeq (.seq e)) := by
  intro env A s Φ ρ σ Q he eo hroom ok F h
  refine call_blt1 G (f := "list") (fv := .type "list") (by simp [bNames]) hx hk hs he eo hroom ok F h ?_
  intro v s₁ d σ₁ Φ₁ st r q
  obtain ⟨rows, hq, q⟩ := q
  cases hq with
  | tup ds =>
    simp only [List.length_map, List.map_map] at q
    have e1 : ((fun r : List D => r.headD .none) ∘ fun d => [d]) = id := rfl
    rw [e1, List.map_id] at q
    cases r with
    | tup ho hc hd ra =>
      have hl := ra.length
      refine call_list_seq _ (.inr rfl) (st.ok.frz _ _ ho).1 hc hd (fun h' c' k hg => ?_) (by simp only [Array.length_toList] at hl; unfold sizeLine; omega)
      exact made_list st (Step.keeps (tk := s₁.toks) st.ok k) (size_none _) ⟨_, hg⟩ ra q.2
  | one ds =>
    simp only [List.length_map, List.map_map] at q
    have e1 : ((fun r : List D => r.headD .none) ∘ fun d => [d]) = id := rfl
    rw [e1, List.map_id] at q
    cases r with
    | lst ho hc hd ra =>
      have hl := ra.length
      refine call_list_seq _ (.inl rfl) (st.ok.frz _ _ ho).1 hc hd (fun h' c' k hg => ?_) (by simp only [Array.length_toList] at hl; unfold sizeLine; omega)
      exact made_list st (Step.keeps (tk := s₁.toks) st.ok k) (size_none _) ⟨_, hg⟩ ra q.2
  | many rows h1 => exact absurd rfl h1

/-- the object that range(e) makes -/
theorem range_obj {x : Expr} {e : E} {p pos : Pos} {env : Env} {A : Around} {s : Shared} {Φ : Fz} {ρ : List MV} {σ : Sg} {P : D → Sg → Prop} {K : Value → Shared → Prop}
    (G : Gnd X) (hx : SE X n sc names x e) (hk : sc.names.lookup ("range" : Str) = some .globalImplicit) (hs : notStar x = true)
    (he : env.scope = sc) (eo : EnvOk env) (hroom : Room n A) (ok : Ok X.g σ Φ s.heap) (F : Frame X.g env names ρ σ Φ s.heap) (h : mEval X n e ρ σ P) (hP : ∀ d σ, P d σ → ∃ i, d = .int i)
    (hc : ∀ r i t s₁ s₂ σ₁ Φ₁, Step X.g s s₁ Φ Φ₁ σ σ₁ → Step X.g s₁ s₂ Φ₁ Φ₁ σ₁ σ₁ → s₁.heap.get? r = none → P (.int i) σ₁ → (∃ u w, IsRange s₂.heap r 0 i 1 u t w) → K (.ref r) s₂) :
    wpAny (model X.prog X.w) A (eval (.Call (.Name "range" p) [x] [] pos) env) K No s := by
  refine call_blt1 G (f := "range") (fv := .type "range") (by simp [bNames]) hx hk hs he eo hroom ok F h ?_
  intro v s₁ d σ₁ Φ₁ st r q
  obtain ⟨i, rfl⟩ := hP _ _ q
  cases r with
  | int _ t =>
    refine call_range_1 ?_
    exact hc _ i t s₁ _ σ₁ Φ₁ st (Step.keeps st.ok fun _ _ e => Heap.get?_push_of_some _ e) (size_none _) q ⟨_, _, IsRange.new ..⟩

theorem RdAll.of_get {Φ : Fz} : ∀ {vs : List Value} {ds : List D}, vs.length = ds.length → (∀ (j : Nat) (v : Value), vs[j]? = some v → ∃ d, ds[j]? = some d ∧ Rd Φ v d) → RdAll Φ vs ds
  | [], [], _, _ => .nil
  | [], _ :: _, h, _ => by simp at h
  | _ :: _, [], h, _ => by simp at h
  | v :: vs, d :: ds, h, k => by
    obtain ⟨d', hd, r⟩ := k 0 v rfl
    simp at hd; subst hd
    exact .cons r (RdAll.of_get (by simpa using h) fun j u hj => k (j + 1) u (by simpa using hj))

theorem SL_listRange {x : Expr} {e : E} {p p' pos pos' : Pos} (G : Gnd X) (hx : SE X n sc names x e) (hk : sc.names.lookup ("list" : Str) = some .globalImplicit) (hk' : sc.names.lookup ("range" : Str) = some .globalImplicit) (hs : notStar x = true) :
    SL X n sc names (.Call (.Name "list" p) [.Call (.Name "range" p') [x] [] pos'] [] pos) (.ofSeq (.range e)) := by
  intro env A s Φ ρ σ Q he eo hroom ok F h
  refine Call_Name rfl ?_
  refine name_blt G ok eo (by rw [Env.kindOf_sc he]; exact hk) (v := .type "list") (by simp [bNames]) (by decide) ?_
  refine PyProof.Rows.callWith_type1 ?_ rfl rfl
  show wpAny _ A (spliced ((false, eval (.Call (.Name "range" p') [x] [] pos') env) :: [])) _ _ s
  refine Calls.spliced_cons (range_obj G hx hk' hs he eo hroom ok F h (fun d σ q => ?_) ?_)
  · obtain ⟨i, e, _⟩ := q; exact ⟨i, e⟩
  intro r i t s₁ s₂ σ₁ Φ₁ st st₂ hn q hr
  obtain ⟨_, ei, q⟩ := q
  cases ei
  obtain ⟨u, w, hr⟩ := hr
  refine Calls.spliced_nil ?_
  simp only [List.length_map, List.length_range, List.map_map] at q
  have hsz : Builtin.Range.rangeSize 0 i 1 = (i.toNat : Int) := by rw [rangeSize_one]; split <;> omega
  refine call_list_range hroom.1 hr (small_one (by decide) (by decide) q.2.1 q.2.2.1) hsz (by omega) ?_
  rintro h' tk acc' c' k hg ⟨hsize, hitems⟩
  refine made_list (st.trans st₂) (Step.keeps (tk := tk) st₂.ok k) (size_none _) ⟨_, hg⟩ ?_ q.2.2.2.2
  have hh : ((fun r : List D => r.headD .none) ∘ fun (j : Nat) => [D.int (j : Int)]) = fun (j : Nat) => D.int (j : Int) := rfl
  rw [hh]
  refine RdAll.of_get (by simp [hsize]) fun j v hv => ?_
  have hj : j < i.toNat := by
    rcases Nat.lt_or_ge j acc'.toList.length with h | h
    · simpa [hsize] using h
    · rw [List.getElem?_eq_none h] at hv; cases hv
  obtain ⟨t, rfl⟩ := hitems j v (by simpa using hv)
  refine ⟨.int j, by simp [hj], ?_⟩
  have : (0 + (j : Int) * 1) = j := by omega
  rw [this]
  exact .int _ _

theorem foldl_replicate (v : Value) : ∀ (k : Nat) (acc : Array Value), List.foldl (fun x1 x2 => x1 ++ x2) acc (List.replicate k #[v]) = acc ++ (List.replicate k v).toArray
  | 0, acc => by simp
  | k + 1, acc => by
    rw [List.replicate_succ, List.foldl_cons, foldl_replicate v k]
    apply Array.toList_inj.mp
    simp [List.replicate_succ]

theorem mul_one {s : Shared} {A : Around} {l : Addr} {v : Value} {k : Nat} {x : Int} {u : Tok} {Q : Value → Shared → Prop} {prog : Program} {w : World} {E : Value → Shared → Prop}
    (hl : s.heap.get? l = some { cls := .type "list", dict := none, data := .seq #[v] k, slots := #[] }) (hlo : -(2 ^ 63 : Int) ≤ x) (hhi : x < 2 ^ 63) (hsz : x.toNat ≤ 2 ^ 20)
    (h : Q (.ref s.heap.objs.size) { s with heap := s.heap.push { cls := .type "list", data := .seq (List.replicate x.toNat v).toArray } }) :
    wpAny (model prog w) A (binaryOp .Mult (.ref l) (.int x u)) Q E s := by
  refine wpAny_binaryOp_repeat_ref (T := "list") (U := "int") (by decide) ⟨_, hl, rfl⟩ (fun s' => typeIs_int s' x u) noFill_list_mul F.fills_int_mul F.slot_int_rmul repeat_list F.slot_int_index.lookup
    (call_meets F.slot_int_rmul (typeIs_int s x u) F.entry_int_rmul (F.args_int_rmul_2 _ _) (int___rmul___int_list x u l #[v] k)
      ⟨hl, rfl, ⟨_, hl, rfl⟩, call_meets F.slot_list_mul ⟨_, hl, rfl⟩ F.entry_list_mul (F.args_list_mul_2 _ _)
        (AutoListH.list___mul___list_int_3 l #[v] k x u (by simp [Builtin.List.listFitsIndex]; omega) (by simp; omega) (by simp [Builtin.List.listTooLong, sizeLine]; omega))
        ⟨hl, ?_⟩⟩)
  have e : List.foldl (fun x1 x2 => x1 ++ x2) (#[] : Array Value) (List.replicate (if (#[v] : Array Value).isEmpty = true then 0 else x.toNat) #[v]) = (List.replicate x.toNat v).toArray := by
    rw [if_neg (by simp), foldl_replicate]; simp
  rw [e]
  exact h

theorem RdAll.replicate {Φ : Fz} {v : Value} {d : D} (h : Rd Φ v d) : ∀ k : Nat, RdAll Φ (List.replicate k v) (List.replicate k d)
  | 0 => .nil
  | k + 1 => .cons h (RdAll.replicate h k)

theorem SL_rep {x y : Expr} {e m : E} {p pos : Pos} (hx : SE X n sc names x e) (hy : SE X n sc names y m) (hs : notStar x = true) : SL X n sc names (.BinOp (.List [x] p) .Mult y pos) (.rep e m) := by
  intro env A s Φ ρ σ Q he eo hroom ok F h
  refine wpAny_BinOp (wpAny_List ?_)
  have h1 : mEvals X n [e] ρ σ (fun ds σ => ∃ d, ds = [d] ∧ mEval X n m ρ σ fun k σ => ∃ i, k = .int i ∧ 0 ≤ i ∧ i ≤ 2 ^ 20 ∧ Q (List.replicate i.toNat d) σ) := by
    simp only [mEvals, List.cons.injEq, and_true, exists_eq_left']; exact h
  refine wpAny_mono (SEs_cons hx SEs_nil hs env A s Φ ρ σ _ p he eo hroom ok F h1) ?_ fun _ _ h => h.elim
  rintro vs s₁ ⟨_, σ₁, Φ₁, st, r, d, rfl, q⟩
  cases r with
  | cons r1 r2 =>
    cases r2
    rename_i v
    refine ⟨by simp [sizeLine], ?_⟩
    have st1 := st.trans (push_step st.ok { cls := .type "list", data := .seq [v].toArray })
    refine wpAny_mono (hy env A _ Φ₁ ρ σ₁ _ he eo hroom st1.ok (F.step st1) q) ?_ fun _ _ h => h.elim
    rintro w s₂ ⟨_, σ₂, Φ₂, st₂, r₂, i, rfl, q₂⟩
    cases r₂ with
    | int _ t =>
      have hl : s₂.heap.get? s₁.heap.objs.size = some { cls := .type "list", dict := none, data := .seq #[v] 0, slots := #[] } := st₂.keep _ _ (Heap.get?_push_size _ rfl) (st.ok.freshS (size_none _))
      refine mul_one hl (by omega) (by omega) (by omega) ?_
      have hn := size_none s₂.heap
      refine made_list (st1.trans st₂) (push_step st₂.ok _) hn ⟨_, Heap.get?_push_size _ rfl⟩ ?_ q₂.2.2
      simpa using RdAll.replicate (r1.mono st₂.mono) i.toNat

theorem cat_lists {s : Shared} {A : Around} {l b : Addr} {vs ws : Array Value} {Q : Value → Shared → Prop} {prog : Program} {w : World} {E : Value → Shared → Prop} (hl : s.heap.IsList l vs) (hb : s.heap.IsList b ws)
    (h : Q (.ref s.heap.objs.size) { s with heap := s.heap.push { cls := .type "list", data := .seq (vs ++ ws) } }) (hsz : vs.size + ws.size ≤ sizeLine) :
    wpAny (model prog w) A (binaryOp .Add (.ref l) (.ref b)) Q E s := by
  obtain ⟨⟨cls, dd, data, sl⟩, ho, hc, n, hd⟩ := id hl
  obtain ⟨⟨cls2, dd2, data2, sl2⟩, ho2, hc2, n2, hd2⟩ := id hb
  simp only at hc hd hc2 hd2
  subst hc hd hc2 hd2
  exact concat_meets ⟨_, ho, rfl⟩ ⟨_, ho2, rfl⟩ noFill_list_add seq_list_add PySem.F.slot_list_add PySem.F.entry_list_add (PySem.F.args_list_add_2 _ _) (list_addW l b vs ws n n2 dd dd2 sl sl2 hsz) ⟨ho, ho2, h⟩

theorem SL_cat {x y : Expr} {a b : E} {pos : Pos} (hx : SE X n sc names x a) (hy : SE X n sc names y b) : SL X n sc names (.BinOp x .Add y pos) (.cat a b) := by
  intro env A s Φ ρ σ Q he eo hroom ok F h
  refine wpAny_BinOp (wpAny_mono (hx env A s Φ ρ σ _ he eo hroom ok F h) ?_ fun _ _ h => h.elim)
  rintro v s₁ ⟨d, σ₁, Φ₁, st, r, q⟩
  refine wpAny_mono (hy env A s₁ Φ₁ ρ σ₁ _ he eo hroom st.ok (F.step st) q) ?_ fun _ _ h => h.elim
  rintro w s₂ ⟨_, σ₂, Φ₂, st₂, r₂, ds, es, rfl, rfl, q₂⟩
  have r' := r.mono st₂.mono
  obtain ⟨l, rfl⟩ := r'.lst_ref
  obtain ⟨l', rfl⟩ := r₂.lst_ref
  obtain ⟨vs, hl, ra, _⟩ := r'.isList st₂.ok
  obtain ⟨ws, hl', rb, _⟩ := r₂.isList st₂.ok
  have e1 := ra.length
  have e2 := rb.length
  simp only [Array.length_toList] at e1 e2
  have hlen := q₂.1
  simp only [List.length_append] at hlen
  refine cat_lists hl hl' ?_ (by unfold sizeLine; omega)
  refine made_list (st.trans st₂) (push_step st₂.ok _) (size_none _) ⟨_, Heap.get?_push_size _ rfl⟩ ?_ q₂.2
  simpa using ra.append rb

theorem SL_upto {x y : Expr} {a h : E} {p pos : Pos} (hx : SE X n sc names x a) (hy : SE X n sc names y h) : SL X n sc names (.Subscript x (.Slice none (some y) none p) pos) (.upto a h) := by
  intro env A s Φ ρ σ Q he eo hroom ok F h
  refine Subscript_ (wpAny_mono (hx env A s Φ ρ σ _ he eo hroom ok F h) ?_ fun _ _ h => h.elim)
  rintro v s₁ ⟨d, σ₁, Φ₁, st, r, q⟩
  refine wpAny_Slice ?_
  rw [evalPart_none, evalPart_some]
  refine wpAny_pure ?_
  refine wpAny_mono (hy env A s₁ Φ₁ ρ σ₁ _ he eo hroom st.ok (F.step st) q) ?_ fun _ _ h => h.elim
  rintro w s₂ ⟨_, σ₂, Φ₂, st₂, r₂, ds, k, rfl, rfl, q₂⟩
  refine wpAny_pure ?_
  have r' := r.mono st₂.mono
  obtain ⟨l, rfl⟩ := r'.lst_ref
  obtain ⟨vs, hl, ra, _⟩ := r'.isList st₂.ok
  cases r₂ with
  | int _ t =>
    have e1 := ra.length
    simp only [Array.length_toList] at e1
    have st₃ := push_step st₂.ok { cls := .type "slice", data := .fields #[.none, .int k t, .none] }
    have hk : k = (k.toNat : Int) := by omega
    refine tail_any (Heap.IsList.typeIs (s := { s₂ with heap := s₂.heap.push { cls := .type "slice", data := .fields #[.none, .int k t, .none] } }) (hl.push _)) list_getitem_lookup
      (wpAny_getItem_list_slice (hl.push _) (Heap.IsSliceOf.new ..) .none (.int k t) .none (by simp) ?_ (by unfold sizeLine; omega)) rfl
    refine made_list ((st.trans st₂).trans st₃) (push_step st₃.ok _) (size_none _) ⟨_, Heap.get?_push_size _ rfl⟩ ?_ q₂.2.2
    have ek : slicePick vs none (some k) none = (vs.toList.take k.toNat).toArray := by rw [← slicePick_upto', ← hk]
    rw [ek]
    simpa using ra.take k.toNat

end
end Mine
set_option maxRecDepth 10000
namespace Mine
open PySem PyProof.Rows
theorem Ok.sameBut {g : Heap} {σ : Sg} {Φ : Fz} {h h' : Heap} {a : Addr} (ok : Ok g σ Φ h) (hs : Heap.SameBut a h h') (h1 : g.get? a = none) (h2 : Φ a = none) (h3 : σ a = none) : Ok g σ Φ h' := by
  have k : ∀ b o, b ≠ a → h.get? b = some o → h'.get? b = some o := fun b o hb e => (hs.2 b hb).trans e
  refine ⟨fun b o e => ⟨k b o (fun q => ?_) (ok.base b o e).1, (ok.base b o e).2⟩, fun b o e => ⟨k b o (fun q => ?_) (ok.frz b o e).1, (ok.frz b o e).2⟩, fun b t e => (ok.trk b t e).mono (Fz.le.refl _) fun o ho => k b o (fun q => ?_) ho⟩
  · subst q; rw [h1] at e; cases e
  · subst q; rw [h2] at e; cases e
  · subst q; rw [h3] at e; cases e

theorem names_inj {names : List Str} (nd : names.Nodup) {i j : Nat} {x : Str} (hi : names[i]? = some x) (hj : names[j]? = some x) : i = j := by
  obtain ⟨h1, e1⟩ := List.getElem?_eq_some_iff.mp hi
  obtain ⟨h2, e2⟩ := List.getElem?_eq_some_iff.mp hj
  have pw := List.pairwise_iff_getElem.mp nd
  rcases Nat.lt_trichotomy i j with h | h | h
  · exact absurd (e1.trans e2.symm) (pw i j h1 h2 h)
  · exact h
  · exact absurd (e2.trans e1.symm) (pw j i h2 h1 h)

theorem getD_set_ne {ρ : List MV} {i j : Nat} {mv : MV} (h : i ≠ j) : (ρ.set i mv).getD j .unb = ρ.getD j .unb := by
  simp [List.getD, h]
theorem getD_set_self {ρ : List MV} {i : Nat} {mv : MV} (h : i < ρ.length) : (ρ.set i mv).getD i .unb = mv := by
  simp [List.getD, h]

/-- what must hold of the address of a list that a name is to own -/
def Fresh (g : Heap) (env : Env) (σ : Sg) (Φ : Fz) (μ : Nat → Option Addr) (i : Nat) (a : Addr) : Prop :=
  σ a = none ∧ Φ a = none ∧ g.get? a = none ∧ a ≠ env.locals ∧ (∀ n, (n, a) ∉ env.cells) ∧ ∀ j, j ≠ i → μ j ≠ some a

theorem FrameX.put {g : Heap} {env : Env} {names : List Str} {ρ : List MV} {σ : Sg} {Φ : Fz} {h h' : Heap} {m cm : Str → Option Value} {μ : Nat → Option Addr} (F : FrameX g env names ρ σ Φ h m cm μ)
    {i : Nat} {x : Str} {v : Value} {mv : MV} {μi : Option Addr} {m' cm' : Str → Option Value} {c : Addr} (hi : names[i]? = some x) (hown : c = env.locals ∨ ∃ n, (n, c) ∈ env.cells)
    (hs : Heap.SameBut c h h') (hns : h'.Ns env.locals m') (hcell : ∀ n c, env.cells.lookup n = some c → h'.IsCell c (cm' n)) (hlive : ∃ o, h'.get? c = some o)
    (hx : look env m' cm' x = some v) (hy : ∀ y, y ≠ x → look env m' cm' y = look env m cm y)
    (hv : VRel Φ h' (some v) μi mv) (hμ : ∀ a, μi = some a → Fresh g env σ Φ μ i a ∧ ∃ o, h'.get? a = some o) :
    FrameX g env names (ρ.set i mv) σ Φ h' m' cm' (fun j => if j = i then μi else μ j) := by
  have hlt : i < ρ.length := by
    rw [F.len]
    exact (List.getElem?_eq_some_iff.mp hi).1
  have kp : ∀ b o, b ≠ c → h.get? b = some o → h'.get? b = some o := fun b o hb e => (hs.2 b hb).trans e
  have offc' : ∀ j a, μ j = some a → a ≠ c := fun j a e q => by
    subst q
    rcases hown with q | ⟨n, q⟩
    · exact (F.offm j _ e).1 q
    · exact (F.offm j _ e).2 n q
  exact {
    nd := F.nd
    len := by rw [List.length_set]; exact F.len
    ns := hns
    cell := hcell
    cellsIn := fun n b hb => by
      obtain ⟨o, ho⟩ := F.cellsIn n b hb
      by_cases q : b = c
      · subst q; exact hlive
      · exact ⟨o, kp b o q ho⟩
    hasCell := F.hasCell
    apart := F.apart
    offc := F.offc
    priv := fun a ha => by
      rcases ha with ha | ha | ⟨j, ha⟩
      · exact F.priv a (.inl ha)
      · exact F.priv a (.inr (.inl ha))
      · by_cases q : j = i
        · simp only [if_pos q] at ha
          obtain ⟨⟨h1, h2, h3, _⟩, _⟩ := hμ a ha
          exact ⟨h1, h2, h3⟩
        · simp only [if_neg q] at ha
          exact F.priv a (.inr (.inr ⟨j, ha⟩))
    vars := fun j y hj hacc => by
      by_cases q : j = i
      · subst q
        have e : y = x := by rw [hi] at hj; cases hj; rfl
        subst e
        simp only [if_true, hx, getD_set_self hlt]
        exact hv
      · have hne : y ≠ x := fun e => q (names_inj F.nd (e ▸ hj) hi)
        simp only [hy y hne, if_neg q, getD_set_ne (Ne.symm q)]
        exact (F.vars j y hj hacc).mono (Fz.le.refl _) fun a o e ho => kp a o (offc' j a e) ho
    inj := fun j k a ej ek => by
      by_cases qj : j = i <;> by_cases qk : k = i
      · rw [qj, qk]
      · simp only [if_pos qj] at ej
        simp only [if_neg qk] at ek
        exact absurd ek ((hμ a ej).1.2.2.2.2.2 k qk)
      · simp only [if_neg qj] at ej
        simp only [if_pos qk] at ek
        exact absurd ej ((hμ a ek).1.2.2.2.2.2 j qj)
      · simp only [if_neg qj] at ej
        simp only [if_neg qk] at ek
        exact F.inj j k a ej ek
    offm := fun j a e => by
      by_cases q : j = i
      · simp only [if_pos q] at e
        obtain ⟨⟨_, _, _, h4, h5, _⟩, _⟩ := hμ a e
        exact ⟨h4, h5⟩
      · simp only [if_neg q] at e
        exact F.offm j a e
    live := fun j a e => by
      by_cases q : j = i
      · simp only [if_pos q] at e
        exact (hμ a e).2
      · simp only [if_neg q] at e
        obtain ⟨o, ho⟩ := F.live j a e
        exact ⟨o, kp a o (offc' j a e) ho⟩ }

/-- what stands between the statements of a call: B is what the call must not touch, Φ₀ what was frozen at its start -/
structure Inv (X : Cx) (env : Env) (names : List Str) (B Φ₀ : Fz) (ρ : List MV) (σ : Sg) (Φ : Fz) (h : Heap) : Prop where
  ok : Ok X.g σ Φ h
  mono0 : Fz.le Φ₀ Φ
  prot : ∀ b o, B b = some o → h.get? b = some o ∧ σ b = none
  priv : ∀ b, B b ≠ none → Φ b ≠ none → Φ₀ b ≠ none
  fr : ∃ m cm μ, FrameX X.g env names ρ σ Φ h m cm μ ∧ ∀ a, Own env μ a → B a = none

theorem Inv.frame {X : Cx} {env : Env} {names : List Str} {B Φ₀ : Fz} {ρ : List MV} {σ : Sg} {Φ : Fz} {h : Heap} (I : Inv X env names B Φ₀ ρ σ Φ h) : Frame X.g env names ρ σ Φ h :=
  let ⟨m, cm, μ, F, _⟩ := I.fr; ⟨m, cm, μ, F⟩

theorem Inv.step {X : Cx} {env : Env} {names : List Str} {B Φ₀ : Fz} {ρ : List MV} {σ σ' : Sg} {Φ Φ' : Fz} {s s' : Shared} (I : Inv X env names B Φ₀ ρ σ Φ s.heap) (x : Step X.g s s' Φ Φ' σ σ') :
    Inv X env names B Φ₀ ρ σ' Φ' s'.heap := by
  obtain ⟨m, cm, μ, F, hB⟩ := I.fr
  refine ⟨x.ok, I.mono0.trans x.mono, fun b o e => ?_, fun b hb hf => ?_, m, cm, μ, F.step x, hB⟩
  · obtain ⟨h1, h2⟩ := I.prot b o e
    exact ⟨x.keep b o h1 h2, x.outS h1 h2⟩
  · cases e : B b with
    | none => exact absurd e hb
    | some o =>
      obtain ⟨h1, h2⟩ := I.prot b o e
      by_cases hf' : Φ b = none
      · exact absurd (x.outF h1 h2 hf') hf
      · exact I.priv b hb hf'

section
variable {X : Cx} {n : Nat} {sc : Scope} {names : List Str} {env : Env} {B Φ₀ : Fz} {ρ : List MV} {σ : Sg} {Φ : Fz} {s : Shared} {A : Around}

theorem look_put {m cm : Str → Option Value} {x : Str} {v : Value} (hk : env.kindOf x = some .local) : look env (fun y => if y = x then some v else m y) cm x = some v := by
  simp [look, hk]
theorem look_put_ne {m cm : Str → Option Value} {x y : Str} {v : Value} (h : y ≠ x) : look env (fun z => if z = x then some v else m z) cm y = look env m cm y := by
  simp [look, h]
theorem look_putC {m cm : Str → Option Value} {x : Str} {v : Value} (hk : env.kindOf x = some .cell) : look env m (fun y => if y = x then some v else cm y) x = some v := by
  simp [look, hk]
theorem look_putC_ne {m cm : Str → Option Value} {x y : Str} {v : Value} (h : y ≠ x) : look env m (fun z => if z = x then some v else cm z) y = look env m cm y := by
  simp [look, h]

/-- a store to a name: the general rule -/
theorem Inv.store (I : Inv X env names B Φ₀ ρ σ Φ s.heap) (eo : EnvOk env) {i : Nat} {x : Str} {v : Value} {mv : MV} {K : Unit → Shared → Prop} (hi : names[i]? = some x)
    (hk : env.kindOf x = some .local ∨ env.kindOf x = some .cell) {m cm : Str → Option Value} {μ : Nat → Option Addr} (F : FrameX X.g env names ρ σ Φ s.heap m cm μ) (hB : ∀ a, Own env μ a → B a = none)
    {μi : Option Addr} (hv1 : ∀ h', (∀ b o, (b ≠ env.locals ∧ ∀ n, (n, b) ∉ env.cells) → s.heap.get? b = some o → h'.get? b = some o) → VRel Φ h' (some v) μi mv)
    (hv2 : ∀ a, μi = some a → Fresh X.g env σ Φ μ i a ∧ B a = none ∧ ∃ o, s.heap.get? a = some o)
    (h : ∀ s', (∃ h' tk, s' = { s with heap := h', toks := tk }) → Inv X env names B Φ₀ (ρ.set i mv) σ Φ s'.heap → K () s') : wpAny (model X.prog X.w) A (storeName env x v) K No s := by
  have fin : ∀ c h' tk m' cm', (c = env.locals ∨ ∃ n, (n, c) ∈ env.cells) → Heap.SameBut c s.heap h' → h'.Ns env.locals m' → (∀ n c, env.cells.lookup n = some c → h'.IsCell c (cm' n)) → (∃ o, h'.get? c = some o) →
      look env m' cm' x = some v → (∀ y, y ≠ x → look env m' cm' y = look env m cm y) → K () { s with heap := h', toks := tk } := by
    intro c h' tk m' cm' hown hs hns hcell hlive hx hy
    have hown' : Own env μ c := by
      rcases hown with q | q
      · exact .inl q
      · exact .inr (.inl q)
    have p := F.priv c hown'
    have hoff : ∀ a, μi = some a → a ≠ c := fun a e q => by
      obtain ⟨⟨_, _, _, h4, h5, _⟩, _⟩ := hv2 a e
      rcases hown with r | ⟨n, r⟩
      · exact h4 (q.trans r)
      · exact h5 n (q ▸ r)
    refine h _ ⟨h', tk, rfl⟩ ⟨I.ok.sameBut hs p.2.2 p.2.1 p.1, I.mono0, fun b o e => ?_, I.priv, m', cm', _, F.put hi hown hs hns hcell hlive hx hy (hv1 h' fun b o hb e => (hs.2 b fun q => ?_).trans e) fun a e => ⟨(hv2 a e).1, ?_⟩, ?_⟩
    · obtain ⟨h1, h2⟩ := I.prot b o e
      refine ⟨(hs.2 b fun q => ?_).trans h1, h2⟩
      rw [q, hB c hown'] at e; cases e
    · subst q
      rcases hown with r | ⟨n, r⟩
      · exact hb.1 r
      · exact hb.2 n r
    · obtain ⟨_, _, o, ho⟩ := hv2 a e
      exact ⟨o, (hs.2 a (hoff a e)).trans ho⟩
    · intro a ha
      rcases ha with ha | ha | ⟨j, ha⟩
      · exact hB a (.inl ha)
      · exact hB a (.inr (.inl ha))
      · by_cases q : j = i
        · simp only [if_pos q] at ha; exact (hv2 a ha).2.1
        · simp only [if_neg q] at ha; exact hB a (.inr (.inr ⟨j, ha⟩))
  rcases hk with hk | hk
  · refine wpAny_storeName_local hk F.ns (fun h' hn hs => ?_) (by rw [eo.kind]; rfl)
    refine fin env.locals h' _ _ cm (.inl rfl) hs hn (fun n c hc => (F.cell n c hc).sameBut hs (F.offc n c (mem_of_lookup hc))) ?_ (look_put hk) fun y hy => look_put_ne hy
    obtain ⟨o, _, _, ho, _⟩ := hn
    exact ⟨o, ho⟩
  · obtain ⟨c, hc⟩ := Option.isSome_iff_exists.mp (F.hasCell x (.inl hk))
    refine wpAny_storeName_cell eo.kind hk hc (F.cell x c hc) fun h' hc' hs => ?_
    refine fin c h' s.toks m (fun y => if y = x then some v else cm y) (.inr ⟨x, mem_of_lookup hc⟩) hs (F.ns.sameBut hs (Ne.symm (F.offc x c (mem_of_lookup hc)))) (fun n b hb => ?_) ?_ (look_putC hk) fun y hy => look_putC_ne hy
    · by_cases q : n = x
      · subst q; rw [hc] at hb; cases hb; simpa using hc'
      · rw [if_neg q]
        exact (F.cell n b hb).sameBut hs fun e => q (name_of_addr F.apart (mem_of_lookup hb) (e ▸ mem_of_lookup hc))
    · obtain ⟨o, ho, _⟩ := hc'
      exact ⟨o, ho⟩

theorem Inv.storeV (I : Inv X env names B Φ₀ ρ σ Φ s.heap) (eo : EnvOk env) {i : Nat} {x : Str} {v : Value} {d : D} {K : Unit → Shared → Prop} (hi : names[i]? = some x)
    (hk : env.kindOf x = some .local ∨ env.kindOf x = some .cell) (hv : Rd Φ v d)
    (h : ∀ s', (∃ h' tk, s' = { s with heap := h', toks := tk }) → Inv X env names B Φ₀ (ρ.set i (.val d)) σ Φ s'.heap → K () s') : wpAny (model X.prog X.w) A (storeName env x v) K No s := by
  obtain ⟨m, cm, μ, F, hB⟩ := I.fr
  exact I.store (mv := .val d) (μi := none) eo hi hk F hB (fun _ _ => ⟨rfl, v, rfl, hv⟩) (fun _ e => by cases e) h

theorem Inv.storeM (I : Inv X env names B Φ₀ ρ σ Φ s.heap) (eo : EnvOk env) {i : Nat} {x : Str} {a : Addr} {vs : Array Value} {ds : List D} {K : Unit → Shared → Prop} (hi : names[i]? = some x)
    (hk : env.kindOf x = some .local ∨ env.kindOf x = some .cell) (hl : s.heap.PlainList a vs) (hr : RdAll Φ vs.toList ds)
    {m cm : Str → Option Value} {μ : Nat → Option Addr} (F : FrameX X.g env names ρ σ Φ s.heap m cm μ) (hB : ∀ a, Own env μ a → B a = none) (hf : Fresh X.g env σ Φ μ i a) (hBa : B a = none)
    (h : ∀ s', (∃ h' tk, s' = { s with heap := h', toks := tk }) → Inv X env names B Φ₀ (ρ.set i (.mt ds)) σ Φ s'.heap → K () s') : wpAny (model X.prog X.w) A (storeName env x (.ref a)) K No s := by
  refine I.store (mv := .mt ds) (μi := some a) eo hi hk F hB (fun h' k => ⟨a, vs, rfl, rfl, hl.at fun o e => k a o ⟨hf.2.2.2.1, hf.2.2.2.2.1⟩ e, hr⟩) (fun b e => ?_) h
  cases e
  obtain ⟨k, ho⟩ := hl
  exact ⟨hf, hBa, _, ho⟩
end
end Mine
set_option maxRecDepth 10000
namespace Mine
open PySem PyProof.Rows
theorem FrameX.upd {g : Heap} {env : Env} {names : List Str} {ρ : List MV} {σ : Sg} {Φ : Fz} {h h' : Heap} {m cm : Str → Option Value} {μ : Nat → Option Addr} (F : FrameX g env names ρ σ Φ h m cm μ)
    {i : Nat} {x : Str} {a : Addr} {vs : Array Value} {ds : List D} (hi : names[i]? = some x) (hμ : μ i = some a) (hs : Heap.SameBut a h h') (hl : h'.PlainList a vs) (hr : RdAll Φ vs.toList ds) :
    FrameX g env names (ρ.set i (.mt ds)) σ Φ h' m cm μ := by
  have hlt : i < ρ.length := by
    rw [F.len]
    exact (List.getElem?_eq_some_iff.mp hi).1
  have kp : ∀ b o, b ≠ a → h.get? b = some o → h'.get? b = some o := fun b o hb e => (hs.2 b hb).trans e
  have off := F.offm i a hμ
  exact {
    nd := F.nd
    len := by rw [List.length_set]; exact F.len
    ns := F.ns.at' fun o e => kp _ o (Ne.symm off.1) e
    cell := fun n c hc => let ⟨o, ho, hd⟩ := F.cell n c hc; ⟨o, kp c o (fun q => off.2 n (q ▸ mem_of_lookup hc)) ho, hd⟩
    cellsIn := fun n c hc => let ⟨o, ho⟩ := F.cellsIn n c hc; ⟨o, kp c o (fun q => off.2 n (q ▸ hc)) ho⟩
    hasCell := F.hasCell
    apart := F.apart
    offc := F.offc
    priv := F.priv
    vars := fun j y hj hacc => by
      by_cases q : j = i
      · subst q
        rw [getD_set_self hlt]
        have old := F.vars j y hj hacc
        cases e : ρ.getD j .unb with
        | unb => rw [e] at old; rw [show μ j = none from old] at hμ; cases hμ
        | val d => rw [e] at old; rw [old.1] at hμ; cases hμ
        | mt es =>
          rw [e] at old
          obtain ⟨a', vs', h1, h2, _⟩ := old
          have : a' = a := by rw [hμ] at h1; cases h1; rfl
          subst this
          exact ⟨a', vs, hμ, h2, hl, hr⟩
      · rw [getD_set_ne (Ne.symm q)]
        exact (F.vars j y hj hacc).mono (Fz.le.refl _) fun b o e ho => kp b o (fun z => q (F.inj j i a (z ▸ e) hμ)) ho
    inj := F.inj
    offm := F.offm
    live := fun j b e => by
      by_cases q : b = a
      · subst q; obtain ⟨k, hk⟩ := hl; exact ⟨_, hk⟩
      · obtain ⟨o, ho⟩ := F.live j b e; exact ⟨o, kp b o q ho⟩ }

section
variable {X : Cx} {n : Nat} {sc : Scope} {names : List Str} {env : Env} {B Φ₀ : Fz} {ρ : List MV} {σ : Sg} {Φ : Fz} {s : Shared} {A : Around}

theorem Inv.upd {h h' : Heap} (I : Inv X env names B Φ₀ ρ σ Φ h) {m cm : Str → Option Value} {μ : Nat → Option Addr} (F : FrameX X.g env names ρ σ Φ h m cm μ) (hB : ∀ a, Own env μ a → B a = none)
    {i : Nat} {x : Str} {a : Addr} {vs : Array Value} {ds : List D} (hi : names[i]? = some x) (hμ : μ i = some a) (hs : Heap.SameBut a h h') (hl : h'.PlainList a vs) (hr : RdAll Φ vs.toList ds) :
    Inv X env names B Φ₀ (ρ.set i (.mt ds)) σ Φ h' := by
  have p := F.priv a (.inr (.inr ⟨i, hμ⟩))
  refine ⟨I.ok.sameBut hs p.2.2 p.2.1 p.1, I.mono0, fun b o e => ?_, I.priv, m, cm, μ, F.upd hi hμ hs hl hr, hB⟩
  obtain ⟨h1, h2⟩ := I.prot b o e
  refine ⟨(hs.2 b fun q => ?_).trans h1, h2⟩
  rw [q, hB a (.inr (.inr ⟨i, hμ⟩))] at e; cases e

/-- the list that a name owns -/
theorem FrameX.own (F : FrameX X.g env names ρ σ Φ s.heap m cm μ) {i : Nat} {x : Str} {ds : List D} (hi : names[i]? = some x) (ha : acc env x) (hm : ρ.getD i .unb = .mt ds) :
    ∃ a vs, μ i = some a ∧ look env m cm x = some (.ref a) ∧ s.heap.PlainList a vs ∧ RdAll Φ vs.toList ds := by
  have := F.vars i x hi ha
  rw [hm] at this
  exact this

def FlRel (Φ : Fz) : Flow → Fl → Prop
  | .next, .next => True
  | .ret v, .ret d => Rd Φ v d
  | _, _ => False

def Ex (X : Cx) (env : Env) (names : List Str) (B Φ₀ : Fz) (s : Shared) (Φ : Fz) (Q : Fl → List MV → Sg → Prop) (f : Flow) (s' : Shared) : Prop :=
  ∃ fl ρ' σ' Φ', (∃ h' tk, s' = { s with heap := h', toks := tk }) ∧ Inv X env names B Φ₀ ρ' σ' Φ' s'.heap ∧ Fz.le Φ Φ' ∧ FlRel Φ' f fl ∧ Q fl ρ' σ'

def SS (X : Cx) (n : Nat) (sc : Scope) (names : List Str) (st : Stmt) (m : S) : Prop :=
  ∀ env A s B Φ₀ ρ σ Φ Q, env.scope = sc → EnvOk env → Room n A → Inv X env names B Φ₀ ρ σ Φ s.heap → mExec X n m ρ σ Q → wpAny (model X.prog X.w) A (exec st env) (Ex X env names B Φ₀ s Φ Q) No s
def SSs (X : Cx) (n : Nat) (sc : Scope) (names : List Str) (sts : List Stmt) (ms : List S) : Prop :=
  ∀ env A s B Φ₀ ρ σ Φ Q, env.scope = sc → EnvOk env → Room n A → Inv X env names B Φ₀ ρ σ Φ s.heap → mExecs X n ms ρ σ Q → wpAny (model X.prog X.w) A (execs sts env) (Ex X env names B Φ₀ s Φ Q) No s

theorem SSs_nil : SSs X n sc names [] [] := fun _ _ s _ _ _ _ _ _ _ _ _ I h => wpAny_execs_nil ⟨.next, _, _, _, ⟨s.heap, s.toks, rfl⟩, I, Fz.le.refl _, trivial, h⟩

theorem SSs_cons {st : Stmt} {sts : List Stmt} {m : S} {ms : List S} (h1 : SS X n sc names st m) (h2 : SSs X n sc names sts ms) : SSs X n sc names (st :: sts) (m :: ms) := by
  intro env A s B Φ₀ ρ σ Φ Q he eo hr I h
  simp only [mExecs] at h
  refine wpAny_execs_cons (wpAny_mono (h1 env A s B Φ₀ ρ σ Φ _ he eo hr I h) ?_ fun _ _ h => h.elim)
  rintro f s₁ ⟨fl, ρ₁, σ₁, Φ₁, ⟨h', tk, rfl⟩, I₁, le₁, fr, q⟩
  cases fl with
  | next =>
    cases f <;> simp only [FlRel] at fr
    refine wpAny_mono (h2 env A _ B Φ₀ ρ₁ σ₁ Φ₁ _ he eo hr I₁ q) ?_ fun _ _ h => h.elim
    rintro f s₂ ⟨fl, ρ₂, σ₂, Φ₂, ⟨h'', tk', rfl⟩, I₂, le₂, fr, q⟩
    exact ⟨fl, ρ₂, σ₂, Φ₂, ⟨h'', tk', rfl⟩, I₂, le₁.trans le₂, fr, q⟩
  | ret d =>
    cases f <;> simp only [FlRel] at fr
    exact ⟨.ret d, ρ₁, σ₁, Φ₁, ⟨h', tk, rfl⟩, I₁, le₁, fr, q⟩

/-- freezing a list that a name owns -/
theorem Inv.freeze {h : Heap} (I : Inv X env names B Φ₀ ρ σ Φ h) {i : Nat} {x : Str} {ds : List D} (hi : names[i]? = some x) (ha : acc env x) (hm : ρ.getD i .unb = .mt ds) :
    ∃ Φ', Fz.le Φ Φ' ∧ Inv X env names B Φ₀ (ρ.set i (.val (.lst ds))) σ Φ' h := by
  obtain ⟨m, cm, μ, F, hB⟩ := I.fr
  have hlt : i < ρ.length := by
    rw [F.len]
    exact (List.getElem?_eq_some_iff.mp hi).1
  have := F.vars i x hi ha
  rw [hm] at this
  obtain ⟨a, vs, hμ, hlk, ⟨k, hl⟩, hr⟩ := this
  have p := F.priv a (.inr (.inr ⟨i, hμ⟩))
  have le := Fz.le_put (Φ := Φ) (a := a) (o := { cls := .type "list", data := .seq vs k }) p.2.1
  have ok' : Ok X.g σ (Fz.put Φ a { cls := .type "list", data := .seq vs k }) h := I.ok.freeze hl p.1 p.2.1
  refine ⟨_, le, ok', I.mono0.trans le, I.prot, fun b hb hf => ?_, m, cm, fun j => if j = i then none else μ j, ?_, fun b hb => ?_⟩
  · by_cases q : b = a
    · subst q; exact absurd (hB b (.inr (.inr ⟨i, hμ⟩))) hb
    · rw [Fz.put_ne q] at hf; exact I.priv b hb hf
  · exact {
      nd := F.nd
      len := by rw [List.length_set]; exact F.len
      ns := F.ns
      cell := F.cell
      cellsIn := F.cellsIn
      hasCell := F.hasCell
      apart := F.apart
      offc := F.offc
      priv := fun b hb => by
        have hb' : Own env μ b ∧ b ≠ a := by
          rcases hb with hb | ⟨n, hb⟩ | ⟨j, hb⟩
          · exact ⟨.inl hb, fun q => (F.offm i a hμ).1 (q ▸ hb)⟩
          · exact ⟨.inr (.inl ⟨n, hb⟩), fun q => (F.offm i a hμ).2 n (q ▸ hb)⟩
          · by_cases q : j = i
            · simp only [if_pos q] at hb; cases hb
            · simp only [if_neg q] at hb
              exact ⟨.inr (.inr ⟨j, hb⟩), fun z => q (F.inj j i a (z ▸ hb) hμ)⟩
        have p := F.priv b hb'.1
        exact ⟨p.1, by rw [Fz.put_ne hb'.2]; exact p.2.1, p.2.2⟩
      vars := fun j y hj hacc => by
        by_cases q : j = i
        · subst q
          have e : y = x := by rw [hi] at hj; cases hj; rfl
          subst e
          simp only [if_true]
          rw [getD_set_self hlt]
          exact ⟨rfl, _, hlk, .lst (Fz.put_self _ _ _) rfl rfl (hr.mono le)⟩
        · simp only [if_neg q]
          rw [getD_set_ne (Ne.symm q)]
          exact (F.vars j y hj hacc).mono le fun _ _ _ e => e
      inj := fun j l b ej el => by
        by_cases q : j = i
        · simp only [if_pos q] at ej; cases ej
        · by_cases q' : l = i
          · simp only [if_pos q'] at el; cases el
          · simp only [if_neg q] at ej
            simp only [if_neg q'] at el
            exact F.inj j l b ej el
      offm := fun j b e => by
        by_cases q : j = i
        · simp only [if_pos q] at e; cases e
        · simp only [if_neg q] at e; exact F.offm j b e
      live := fun j b e => by
        by_cases q : j = i
        · simp only [if_pos q] at e; cases e
        · simp only [if_neg q] at e; exact F.live j b e }
  · rcases hb with hb | hb | ⟨j, hb⟩
    · exact hB b (.inl hb)
    · exact hB b (.inr (.inl hb))
    · by_cases q : j = i
      · simp only [if_pos q] at hb; cases hb
      · simp only [if_neg q] at hb; exact hB b (.inr (.inr ⟨j, hb⟩))

theorem SSs_freeze {sts : List Stmt} {ms : List S} {i : Nat} {x : Str} (hi : names[i]? = some x) (ha : accS sc x = true) (h2 : SSs X n sc names sts ms) : SSs X n sc names sts (.freeze i :: ms) := by
  intro env A s B Φ₀ ρ σ Φ Q he eo hr I h
  obtain ⟨ds, e, h⟩ := h
  obtain ⟨Φ', le, I'⟩ := I.freeze hi (acc_of he ha) e
  refine wpAny_mono (h2 env A s B Φ₀ _ σ Φ' _ he eo hr I' h) ?_ fun _ _ h => h.elim
  rintro f s₂ ⟨fl, ρ₂, σ₂, Φ₂, hs, I₂, le₂, fr, q⟩
  exact ⟨fl, ρ₂, σ₂, Φ₂, hs, I₂, le.trans le₂, fr, q⟩

/-- may be stored to -/
def stS (sc : Scope) (x : Str) : Bool := match sc.names.lookup x with
  | some .local => true
  | some .cell => true
  | _ => false
theorem st_of (he : env.scope = sc) {x : Str} (h : stS sc x = true) : env.kindOf x = some .local ∨ env.kindOf x = some .cell := by
  rw [Env.kindOf_sc he]
  unfold stS at h
  split at h
  · exact .inl (by assumption)
  · exact .inr (by assumption)
  · cases h

def notComp : Expr → Bool
  | .ListComp .. => false
  | .SetComp .. => false
  | .DictComp .. => false
  | _ => true
theorem swaps_false {e : Expr} {t : Expr} {l : Nat} (h : notComp e = true) : swapsWith e (some t) l env = pure false := by
  cases e <;> first | rfl | cases h

theorem SS_asg' {i : Nat} {x : Str} {v : Expr} {e : E} {p pos : Pos} (hi : names[i]? = some x) (hk : stS sc x = true) (hv : SE X n sc names v e) (hc : ∀ env, env.scope = sc → EnvOk env → swapsWith v (some (.Name x p)) pos.line env = pure false) : SS X n sc names (.Assign [.Name x p] v pos) (.asg i e) := by
  intro env A s B Φ₀ ρ σ Φ Q he eo hr I h
  refine wpAny_Assign_Name (wpAny_mono (hv env A s Φ ρ σ _ he eo hr I.ok I.frame h) ?_ fun _ _ h => h.elim) (hc env he eo)
  rintro v s₁ ⟨d, σ₁, Φ₁, st, r, q⟩
  refine (I.step st).storeV eo hi (st_of he hk) r fun s' hs I' => ?_
  obtain ⟨h', tk, rfl⟩ := st.same
  obtain ⟨h'', tk', rfl⟩ := hs
  exact ⟨.next, _, σ₁, Φ₁, ⟨h'', tk', rfl⟩, I', st.mono, trivial, q⟩

theorem SS_asg {i : Nat} {x : Str} {v : Expr} {e : E} {p pos : Pos} (hi : names[i]? = some x) (hk : stS sc x = true) (hv : SE X n sc names v e) (hc : notComp v = true) : SS X n sc names (.Assign [.Name x p] v pos) (.asg i e) :=
  SS_asg' hi hk hv fun _ _ _ => swaps_false hc

theorem SS_asgM' {i : Nat} {x : Str} {v : Expr} {l : L} {p pos : Pos} (hi : names[i]? = some x) (hk : stS sc x = true) (hv : SL X n sc names v l) (hc : ∀ env, env.scope = sc → EnvOk env → swapsWith v (some (.Name x p)) pos.line env = pure false) : SS X n sc names (.Assign [.Name x p] v pos) (.asgM i l) := by
  intro env A s B Φ₀ ρ σ Φ Q he eo hr I h
  refine wpAny_Assign_Name (wpAny_mono (hv env A s Φ ρ σ _ he eo hr I.ok I.frame h) ?_ fun _ _ h => h.elim) (hc env he eo)
  rintro v s₁ ⟨a, vs, ds, σ₁, Φ₁, rfl, st, hn, hl, h1, h2, r, q⟩
  have I₁ := I.step st
  obtain ⟨m, cm, μ, F, hB⟩ := I.fr
  have hold : ∀ o, s.heap.get? a ≠ some o := fun o e => by rw [hn] at e; cases e
  have hBa : B a = none := by
    cases e : B a with
    | none => rfl
    | some o => exact absurd (I.prot a o e).1 (hold o)
  have hga : X.g.get? a = none := by
    cases e : X.g.get? a with
    | none => rfl
    | some o => exact absurd (I.ok.base a o e).1 (hold o)
  have hinn : ∀ b, Own env μ b → b ≠ a := fun b hb q => by
    subst q
    rcases hb with hb | ⟨n, hb⟩ | ⟨j, hb⟩
    · subst hb; obtain ⟨o, _, _, ho, _⟩ := F.ns; exact hold o ho
    · obtain ⟨o, ho⟩ := F.cellsIn n _ hb; exact hold o ho
    · obtain ⟨o, ho⟩ := F.live j _ hb; exact hold o ho
  refine I₁.storeM eo hi (st_of he hk) hl r (F.step st) hB ⟨h1, h2, hga, fun q => hinn _ (.inl rfl) q.symm, fun n q => hinn a (.inr (.inl ⟨n, q⟩)) rfl, fun j _ q => hinn a (.inr (.inr ⟨j, q⟩)) rfl⟩ hBa fun s' hs I' => ?_
  · obtain ⟨h', tk, rfl⟩ := st.same
    obtain ⟨h'', tk', rfl⟩ := hs
    exact ⟨.next, _, σ₁, Φ₁, ⟨h'', tk', rfl⟩, I', st.mono, trivial, q⟩

theorem SS_asgM {i : Nat} {x : Str} {v : Expr} {l : L} {p pos : Pos} (hi : names[i]? = some x) (hk : stS sc x = true) (hv : SL X n sc names v l) (hc : notComp v = true) : SS X n sc names (.Assign [.Name x p] v pos) (.asgM i l) :=
  SS_asgM' hi hk hv fun _ _ _ => swaps_false hc

/-- a list made and frozen at once -/
theorem SS_frozen {st : Stmt} {i : Nat} {x : Str} {l : L} (hi : names[i]? = some x) (hk : stS sc x = true) (h : SS X n sc names st (.asgM i l)) : SS X n sc names st (.asg i (.lst l)) := by
  intro env A s B Φ₀ ρ σ Φ Q he eo hr I hq
  have hlt : i < ρ.length := by
    obtain ⟨m, cm, μ, F, _⟩ := I.fr
    rw [F.len]
    exact (List.getElem?_eq_some_iff.mp hi).1
  have key : (fun (ds : List D) (σ : Sg) => Fl.next = .next ∧ ∃ es, (ρ.set i (.mt ds)).getD i .unb = .mt es ∧ Q .next ((ρ.set i (.mt ds)).set i (.val (.lst es))) σ) = fun ds σ => Q .next (ρ.set i (.val (.lst ds))) σ := by
    funext ds σ
    rw [getD_set_self hlt]
    apply propext
    constructor
    · rintro ⟨_, es, e, q⟩
      cases e
      rw [List.set_set] at q
      exact q
    · intro q
      exact ⟨rfl, ds, rfl, by rw [List.set_set]; exact q⟩
  refine wpAny_mono (h env A s B Φ₀ ρ σ Φ (fun fl ρ' σ' => fl = .next ∧ ∃ es, ρ'.getD i .unb = .mt es ∧ Q .next (ρ'.set i (.val (.lst es))) σ') he eo hr I ?_) ?_ fun _ _ h => h.elim
  · show l X n ρ σ _
    rw [key]; exact hq
  · rintro f s₁ ⟨fl, ρ₁, σ₁, Φ₁, hs, I₁, le₁, fr, rfl, es, e, q⟩
    have ha : acc env x := by
      rcases st_of he hk with h | h
      · exact .inl h
      · exact .inr (.inl h)
    obtain ⟨Φ₂, le₂, I₂⟩ := I₁.freeze hi ha e
    refine ⟨.next, _, σ₁, Φ₂, hs, I₂, le₁.trans le₂, ?_, q⟩
    cases f <;> simp only [FlRel] at fr ⊢
end
end Mine
set_option maxRecDepth 10000
namespace Mine
open PySem PyProof.Rows
section
variable {X : Cx} {n : Nat} {sc : Scope} {names : List Str} {env : Env} {B Φ₀ : Fz} {ρ : List MV} {σ : Sg} {Φ : Fz} {s : Shared} {A : Around}

theorem SS_ret {v : Expr} {e : E} {pos : Pos} (hv : SE X n sc names v e) : SS X n sc names (.Return (some v) pos) (.ret e) := by
  intro env A s B Φ₀ ρ σ Φ Q he eo hr I h
  refine wpAny_Return_some (wpAny_mono (hv env A s Φ ρ σ _ he eo hr I.ok I.frame h) ?_ fun _ _ h => h.elim)
  rintro v s₁ ⟨d, σ₁, Φ₁, st, r, q⟩
  exact ⟨.ret d, ρ, σ₁, Φ₁, st.same, I.step st, st.mono, r, q⟩

theorem interactive_no (eo : EnvOk env) : interactive env = false := by simp [interactive, eo.kind]

theorem SS_if {c : Expr} {t f : List Stmt} {e : E} {mt mf : List S} {pos : Pos} (hc : ST X n sc names c e) (ht : SSs X n sc names t mt) (hf : SSs X n sc names f mf) : SS X n sc names (.If c t f pos) (.iff e mt mf) := by
  intro env A s B Φ₀ ρ σ Φ Q he eo hr I h
  refine wpAny_If (wpAny_mono (hc env A s Φ ρ σ _ (fun b σ => if b = true then mExecs X n mt ρ σ Q else mExecs X n mf ρ σ Q) he eo hr I.ok I.frame (fun _ _ h => h) h) ?_ fun _ _ h => h.elim)
  rintro b s₁ ⟨σ₁, Φ₁, st, q⟩
  have fin : ∀ f s₂, Ex X env names B Φ₀ s₁ Φ₁ Q f s₂ → Ex X env names B Φ₀ s Φ Q f s₂ := by
    rintro f s₂ ⟨fl, ρ₂, σ₂, Φ₂, ⟨h', tk, rfl⟩, I₂, le₂, fr, q⟩
    obtain ⟨h'', tk', rfl⟩ := st.same
    exact ⟨fl, ρ₂, σ₂, Φ₂, ⟨h', tk, rfl⟩, I₂, st.mono.trans le₂, fr, q⟩
  cases b with
  | true => exact wpAny_mono (ht env A s₁ B Φ₀ ρ σ₁ Φ₁ Q he eo hr (I.step st) q) fin fun _ _ h => h.elim
  | false => exact wpAny_mono (hf env A s₁ B Φ₀ ρ σ₁ Φ₁ Q he eo hr (I.step st) q) fin fun _ _ h => h.elim

/-- names as targets -/
def Tgts (names : List Str) (sc : Scope) : List Expr → List Nat → Prop
  | [], [] => True
  | .Name x _ :: es, i :: is => names[i]? = some x ∧ stS sc x = true ∧ Tgts names sc es is
  | _, _ => False

theorem Tgts.len : ∀ {es : List Expr} {is : List Nat}, Tgts names sc es is → es.length = is.length
  | [], [], _ => rfl
  | [], _ :: _, h => by simp [Tgts] at h
  | e :: es, [], h => by cases e <;> simp [Tgts] at h
  | e :: es, i :: is, h => by
    cases e <;> simp only [Tgts] at h
    simp [Tgts.len h.2.2]

theorem assignEach_len : ∀ {es : List Expr} {is : List Nat}, Tgts names sc es is → (assignEach es env).length = is.length ∧ (assignEach es env).findIdx? (·.1) = none
  | [], [], _ => ⟨rfl, rfl⟩
  | [], _ :: _, h => by simp [Tgts] at h
  | e :: es, [], h => by cases e <;> simp [Tgts] at h
  | e :: es, i :: is, h => by
    cases e <;> simp only [Tgts] at h
    rename_i x p
    have ih := assignEach_len h.2.2
    have e1 : assignEach (.Name x p :: es) env = (false, assign (.Name x p) env) :: assignEach es env := rfl
    rw [e1]
    refine ⟨by simp [ih.1], ?_⟩
    rw [List.findIdx?_cons]
    simp [ih.2]

theorem assign_all (eo : EnvOk env) (he : env.scope = sc) : ∀ {es : List Expr} {is : List Nat} {vs : List Value} {ds : List D} {ρ : List MV} {s : Shared} {K : Unit → Shared → Prop}, Tgts names sc es is → ds.length = is.length → RdAll Φ vs ds →
    Inv X env names B Φ₀ ρ σ Φ s.heap → (∀ s', (∃ h' tk, s' = { s with heap := h', toks := tk }) → Inv X env names B Φ₀ (setAll ρ is ds) σ Φ s'.heap → K () s') →
    wpAny (model X.prog X.w) A (assignInOrder ((assignEach es env).map (·.2)) vs) K No s
  | [], [], vs, ds, ρ, s, K, _, hlen, r, I, h => by
    have : ds = [] := by simpa using hlen
    subst this
    cases r
    exact wpAny_pure (h s ⟨s.heap, s.toks, rfl⟩ (by simpa [setAll] using I))
  | [], _ :: _, _, _, _, _, _, ht, _, _, _, _ => by simp [Tgts] at ht
  | e :: _, [], _, _, _, _, _, ht, _, _, _, _ => by cases e <;> simp [Tgts] at ht
  | e :: es, i :: is, vs, ds, ρ, s, K, ht, hlen, r, I, h => by
    cases e <;> simp only [Tgts] at ht
    rename_i x p
    cases r with
    | nil => simp at hlen
    | cons r1 r2 =>
      show wpAny _ A (do holding _ (assign (.Name x p) env _); assignInOrder ((assignEach es env).map (·.2)) _) _ _ s
      refine wpAny_bind (wpAny_holding (wpAny_assign_Name (I.storeV eo ht.1 (st_of he ht.2.1) r1 fun s' hs I' => ?_)))
      refine assign_all eo he ht.2.2 (by simpa using hlen) r2 I' fun s'' hs' I'' => ?_
      obtain ⟨h', tk, rfl⟩ := hs
      obtain ⟨h'', tk', rfl⟩ := hs'
      exact h _ ⟨h'', tk', rfl⟩ (by simpa [setAll] using I'')

/-- a method call on a name, its parts on one line -/
theorem meth_eq {x : Str} {p apos pos : Pos} {name : Str} {args : List Expr} (hl : (apos.endLine == pos.line) = true) (hs : args.all notStar = true) (hn : args.length < 30) :
    eval (.Call (.Attribute (.Name x p) name apos) args [] pos) env = (do
      let ov ← eval (.Name x p) env
      standAt apos.atName
      let (f, first) ← holding [ov] (getMethod ov name (do return (← importBound (.Name x p) env).getD true))
      callWith pos f first (backTo pos (starEach args env)) []) := by
  have h1 : (backTo pos (starEach args env)).all (!·.1) = true := by
    have := plain_star (pos := pos) (env := env) args hs
    rw [List.any_eq_false] at this
    rw [List.all_eq_true]
    intro q hq
    have := this q hq
    simpa using this
  have h2 : methodCallForm (args.length + 0) (backTo pos (starEach args env)) (backToKw pos (keywordEach [] env)) = true := by
    unfold methodCallForm
    rw [h1]
    simp [backToKw, keywordEach]
    omega
  show (do
    let ov ← eval (.Name x p) env
    standAt apos.atName
    methodCall (.Name x p) name apos pos env ov (args.length + 0) (backTo pos (starEach args env)) (backToKw pos (keywordEach [] env))) = _
  unfold methodCall
  simp only [h2, calleeOf, methodCallPos, hl, if_true, Bool.not_true, Bool.false_or, pure_bind]
  rfl

theorem expr_call_swaps {f : Expr} {args : List Expr} {kw : List Keyword} {p : Pos} {l : Nat} : swapsWith (.Call f args kw p) none l env = pure false := rfl

theorem SS_app {i : Nat} {x : Str} {v : Expr} {e : E} {p apos cpos pos : Pos} (hi : names[i]? = some x) (ha : accS sc x = true) (hp : plainName x = true) (hv : SE X n sc names v e) (hs : notStar v = true) (hl : (apos.endLine == cpos.line) = true) :
    SS X n sc names (.Expr (.Call (.Attribute (.Name x p) "append" apos) [v] [] cpos) pos) (.app i e) := by
  intro env A s B Φ₀ ρ σ Φ Q he eo hr I h
  obtain ⟨ds, eds, hlen, h⟩ := h
  refine wpAny_Expr (MethodCall_ ?_ (meth_eq hl (by simp [hs]) (by simp))) (interactive_no eo) expr_call_swaps
  obtain ⟨m, cm, μ, F, hB⟩ := I.fr
  simp only [plainName, Bool.and_eq_true, Bool.not_eq_true'] at hp
  obtain ⟨a, vs, hμ, hlk, hpl, hrd⟩ := F.own hi (acc_of he ha) eds
  refine load_var eo F (acc_of he ha) hlk hp.1 hp.2 ?_
  obtain ⟨k, ho⟩ := id hpl
  refine Calls.getMethod_list_append ho rfl rfl ?_
  refine callWith_method1 ?_ (starEach_cons hs) rfl
  have h1 : mEvals X n [e] ρ σ (fun ds' σ => ∃ d, ds' = [d] ∧ Q .next (ρ.set i (.mt (ds ++ [d]))) σ) := by
    simp only [mEvals, List.cons.injEq, and_true, exists_eq_left']; exact h
  refine wpAny_mono (SEs_cons hv SEs_nil hs env A s Φ ρ σ _ cpos he eo hr I.ok I.frame h1) ?_ fun _ _ h => h.elim
  rintro ws s₁ ⟨_, σ₁, Φ₁, st, r, d, rfl, q⟩
  cases r with
  | cons r1 r2 =>
    cases r2
    rename_i y
    have p := F.priv a (.inr (.inr ⟨i, hμ⟩))
    have hpl₁ : s₁.heap.PlainList a vs := hpl.at fun o ho => st.keep a o ho p.1
    refine wpAny_list_append_plain hpl₁ (fun h' hl' hs' => ?_) (by have := hrd.length; simp only [Array.length_toList] at this; unfold sizeLine; omega)
    have rr : RdAll Φ₁ (vs.push y).toList (ds ++ [d]) := by simpa using (hrd.mono st.mono).append (.one r1)
    have I' := (I.step st).upd (F.step st) hB hi hμ hs' hl' rr
    obtain ⟨h₂, tk₂, rfl⟩ := st.same
    exact ⟨.next, _, σ₁, Φ₁, ⟨h', tk₂, rfl⟩, I', st.mono, trivial, q⟩

/-- list.pop(k) on a list of the usual make -/
theorem pop_plain {prog : Program} {w : World} {l : Addr} {items : Array Value} {k : Int} {t : Tok} {y : Value} {K : Value → Shared → Prop} {E : Value → Shared → Prop} (hl : s.heap.PlainList l items) (h0 : 0 ≤ k) (h1 : k < 2 ^ 62)
    (hy : items[k.toNat]? = some y) (hsz : items.size ≤ sizeLine)
    (h : ∀ h', h'.PlainList l (items.eraseIdxIfInBounds k.toNat) → Heap.SameBut l s.heap h' → K y { s with heap := h' }) : wpAny (model prog w) A (call (.builtin "list.pop") [.ref l, .int k t]) K E s := by
  obtain ⟨n, ho⟩ := hl
  have hlt : k.toNat < items.size := by
    rcases Nat.lt_or_ge k.toNat items.size with h | h
    · exact h
    · rw [Array.getElem?_eq_none h] at hy; cases hy
  refine call_meets PySem.F.slot_list_pop ⟨_, ho, rfl⟩ PySem.F.entry_list_pop (PySem.F.args_list_pop_2 _ _) (MeetsSeq.list_pop_at l items n k t k.toNat y (by simp [Builtin.List.listFitsIndex]; omega) (seqIndex_nat h0 (by omega)) hy hsz) ⟨ho, ?_⟩
  have hu := Heap.get?_update_self (Obj.mapSeq fun xs => xs.eraseIdxIfInBounds k.toNat) ho rfl
  exact h _ ⟨if (items.eraseIdxIfInBounds k.toNat).size == items.size then n else n + 1, hu⟩ (Heap.SameBut.update ..)

theorem SS_appPop {i j : Nat} {x y : Str} {v : Expr} {e : E} {p apos cpos pos p' apos' cpos' : Pos} (hi : names[i]? = some x) (ha : accS sc x = true) (hp : plainName x = true)
    (hj : names[j]? = some y) (hb : accS sc y = true) (hq : plainName y = true) (hv : SE X n sc names v e) (hs : notStar v = true) (hl : (apos.endLine == cpos.line) = true) (hl' : (apos'.endLine == cpos'.line) = true) :
    SS X n sc names (.Expr (.Call (.Attribute (.Name x p) "append" apos) [.Call (.Attribute (.Name y p') "pop" apos') [v] [] cpos'] [] cpos) pos) (.appPop i j e) := by
  intro env A s B Φ₀ ρ σ Φ Q he eo hr I h
  obtain ⟨ds, es, hij, e1, e2, hlen, hlen', h⟩ := h
  refine wpAny_Expr (MethodCall_ ?_ (meth_eq hl rfl (by simp))) (interactive_no eo) expr_call_swaps
  obtain ⟨m, cm, μ, F, hB⟩ := I.fr
  simp only [plainName, Bool.and_eq_true, Bool.not_eq_true'] at hp hq
  obtain ⟨a, vs, hμ, hlk, hpl, hrd⟩ := F.own hi (acc_of he ha) e1
  obtain ⟨b, us, hμ', hlk', hpl', hrd'⟩ := F.own hj (acc_of he hb) e2
  have hab : a ≠ b := fun q => hij (F.inj i j a hμ (q ▸ hμ'))
  refine load_var eo F (acc_of he ha) hlk hp.1 hp.2 ?_
  obtain ⟨k, ho⟩ := id hpl
  refine Calls.getMethod_list_append ho rfl rfl ?_
  refine callWith_method1 ?_ rfl rfl
  show wpAny _ A (spliced [(false, eval (.Call (.Attribute (.Name y p') "pop" apos') [v] [] cpos') env)]) _ _ s
  refine Calls.spliced_cons (MethodCall_ ?_ (meth_eq hl' (by simp [hs]) (by simp)))
  refine load_var eo F (acc_of he hb) hlk' hq.1 hq.2 ?_
  obtain ⟨k', ho'⟩ := id hpl'
  refine getMethod_list_of PySem.F.slot_list_pop PySem.F.type_list_pop hpl'.isList ⟨_, ho', rfl⟩ ?_
  refine callWith_method1 ?_ (starEach_cons hs) rfl
  have h1 : mEvals X n [e] ρ σ (fun ds' σ => ∃ k, ds' = [k] ∧ ∃ t d, k = .int t ∧ 0 ≤ t ∧ es[t.toNat]? = some d ∧ Q .next ((ρ.set j (.mt (es.eraseIdx t.toNat))).set i (.mt (ds ++ [d]))) σ) := by
    simp only [mEvals, List.cons.injEq, and_true, exists_eq_left']; exact h
  refine wpAny_mono (SEs_cons hv SEs_nil hs env A s Φ ρ σ _ cpos' he eo hr I.ok I.frame h1) ?_ fun _ _ h => h.elim
  rintro ws s₁ ⟨_, σ₁, Φ₁, st, r, _, rfl, t, d, rfl, ht0, hd, q⟩
  cases r with
  | cons r1 r2 =>
    cases r2
    cases r1 with
    | int _ tk =>
      have p := F.priv a (.inr (.inr ⟨i, hμ⟩))
      have p' := F.priv b (.inr (.inr ⟨j, hμ'⟩))
      have hpl₁ : s₁.heap.PlainList a vs := hpl.at fun o ho => st.keep a o ho p.1
      have hpl₁' : s₁.heap.PlainList b us := hpl'.at fun o ho => st.keep b o ho p'.1
      obtain ⟨y, hy, ry⟩ := (hrd'.mono st.mono).get hd
      have hul := hrd'.length
      have htl : t.toNat < es.length := (List.getElem?_eq_some_iff.mp hd).1
      simp only [Array.length_toList] at hul
      refine pop_plain hpl₁' ht0 (by omega) (by simpa using hy) (by unfold sizeLine; omega) fun h' hl₁ hs₁ => ?_
      have rr' : RdAll Φ₁ (us.eraseIdxIfInBounds t.toNat).toList (es.eraseIdx t.toNat) := by
        have := (hrd'.mono st.mono).eraseIdx t.toNat
        simpa using this
      have I₁ := (I.step st).upd (F.step st) hB hj hμ' hs₁ hl₁ rr'
      have F₁ := (F.step st).upd hj hμ' hs₁ hl₁ rr'
      refine Calls.spliced_nil ?_
      have hpl₂ : h'.PlainList a vs := hpl₁.at fun o ho => (hs₁.2 a hab).trans ho
      refine wpAny_list_append_plain (s := { s₁ with heap := h' }) hpl₂ (fun h₂ hl₂ hs₂ => ?_) (by have := hrd.length; simp only [Array.length_toList] at this; unfold sizeLine; omega)
      have rr : RdAll Φ₁ (vs.push y).toList (ds ++ [d]) := by simpa using (hrd.mono st.mono).append (.one ry)
      have I₂ := I₁.upd F₁ hB hi hμ hs₂ hl₂ rr
      obtain ⟨h₃, tk₃, rfl⟩ := st.same
      exact ⟨.next, _, σ₁, Φ₁, ⟨h₂, tk₃, rfl⟩, I₂, st.mono, trivial, q⟩
end
end Mine
set_option maxRecDepth 10000
namespace Mine
open PySem PyProof.Rows
section
variable {X : Cx} {n : Nat} {sc : Scope} {names : List Str} {env : Env} {B Φ₀ : Fz} {ρ : List MV} {σ : Sg} {Φ : Fz} {s : Shared} {A : Around}

/-- x[k] = v on a list of the usual make -/
theorem setItem_plain {prog : Program} {w : World} {E : Value → Shared → Prop} {l : Addr} {items : Array Value} {k : Int} {t : Tok} {v : Value} {K : Unit → Shared → Prop} (hl : s.heap.PlainList l items) (h0 : 0 ≤ k) (hfit : k < 2 ^ 63)
    (hn : k < items.size) (h : ∀ h', h'.PlainList l (items.setIfInBounds k.toNat v) → Heap.SameBut l s.heap h' → K () { s with heap := h' }) : wpAny (model prog w) A (setItem (.ref l) (.int k t) v) K E s := by
  obtain ⟨m, ho⟩ := id hl
  have hT := hl.isList.typeIs
  unfold setItem
  try with_reducible refine wpAny_holding ?_
  first | refine wpAny_bind (wpAny_pure ?_) | skip
  refine wpAny_bind (wpAny_sequenceKey hT (by decide) ?_)
  refine wpAny_bind (wpAny_callSpecial?_slot (name := Str.ofString "__setitem__") hT slot_list_setitem (wpAny_call_entry slot_list_setitem hT entry_list_setitem ?_ (args_list_setitem _ _ _)))
  show wpAny _ _ (Builtin.List.listSubscript? (.int k t) >>= _) _ _ s
  refine wpAny_bind (wpAny_listSubscript_int (fitsIndex_of h0 hfit) ?_)
  clear hfit
  obtain ⟨j, rfl⟩ := Int.eq_ofNat_of_zero_le h0
  have hj : j < items.size := by omega
  have hx' : items[j]? = some items[j] := Array.getElem?_eq_getElem hj
  show wpAny _ _ ((seqItemAt l j >>= fun r => pure (r.map (j, ·))) >>= _) _ _ s
  refine wpAny_bind (wpAny_bind (wpAny_seqItemAt ho rfl (wpAny_pure ?_)))
  rw [hx']
  show wpAny _ _ (setSeqItemAt l j v >>= _) _ _ s
  have hu := Heap.get?_update_self (Obj.mapSeq (·.setIfInBounds j v)) ho rfl
  have hfin : (s.heap.update l (Obj.mapSeq (·.setIfInBounds j v))).PlainList l (items.setIfInBounds j v) := ⟨if (items.setIfInBounds j v).size == items.size then m else m + 1, hu⟩
  refine wpAny_bind (wpAny_setSeqItemAt ho rfl ?_)
  first
    | exact wpAny_bind (wpAny_pure (wpAny_pure ⟨.none, rfl, wpAny_pure (h _ hfin (Heap.SameBut.update ..))⟩))
    | exact wpAny_pure ⟨.none, rfl, wpAny_pure (h _ hfin (Heap.SameBut.update ..))⟩

theorem SS_setI {i : Nat} {x : Str} {v k : Expr} {e ek : E} {p p' pos : Pos} (hi : names[i]? = some x) (ha : accS sc x = true) (hp : plainName x = true) (hv : SE X n sc names v e) (hk : SE X n sc names k ek) (hc : notComp v = true) :
    SS X n sc names (.Assign [.Subscript (.Name x p) k p'] v pos) (.setI i ek e) := by
  intro env A s B Φ₀ ρ σ Φ Q he eo hr I h
  obtain ⟨ds, eds, hlen, h⟩ := h
  refine wpAny_Assign_Subscript (wpAny_mono (hv env A s Φ ρ σ _ he eo hr I.ok I.frame h) ?_ fun _ _ h => h.elim) (swaps_false hc)
  rintro v s₁ ⟨d, σ₁, Φ₁, st, r, q⟩
  obtain ⟨m, cm, μ, F, hB⟩ := I.fr
  simp only [plainName, Bool.and_eq_true, Bool.not_eq_true'] at hp
  have F₁ := F.step st
  have I₁ := I.step st
  obtain ⟨a, vs, hμ, hlk, hpl, hrd⟩ := F₁.own hi (acc_of he ha) eds
  refine load_var eo F₁ (acc_of he ha) hlk hp.1 hp.2 ?_
  refine wpAny_mono (hk env A s₁ Φ₁ ρ σ₁ _ he eo hr st.ok I₁.frame q) ?_ fun _ _ h => h.elim
  rintro w s₂ ⟨d₂, σ₂, Φ₂, st₂, r₂, j, rfl, hj0, hj1, q₂⟩
  cases r₂ with
  | int _ t =>
    have pr := F₁.priv a (.inr (.inr ⟨i, hμ⟩))
    have hpl₂ : s₂.heap.PlainList a vs := hpl.at fun o ho => st₂.keep a o ho pr.1
    have hl := hrd.length
    simp only [Array.length_toList] at hl
    refine setItem_plain hpl₂ hj0 (by omega) (by omega) fun h' hl' hs' => ?_
    have rr : RdAll Φ₂ (vs.setIfInBounds j.toNat v).toList (ds.set j.toNat d) := by
      have := (hrd.mono st₂.mono).set j.toNat (r.mono st₂.mono)
      simpa using this
    have I' := (I₁.step st₂).upd (F₁.step st₂) hB hi hμ hs' hl' rr
    obtain ⟨h₃, tk₃, rfl⟩ := (st.trans st₂).same
    exact ⟨.next, _, σ₂, Φ₂, ⟨h', tk₃, rfl⟩, I', st.mono.trans st₂.mono, trivial, q₂⟩

/-! ## what an iterable feeds -/

/-- the protected part, with an iterator's own objects as they stand -/
def Bx (B : Fz) (fpp : List Addr) (h : Heap) : Fz := fun b => if b ∈ fpp then h.get? b else B b

structure Ours (X : Cx) (B Φ₀ : Fz) (fpp : List Addr) : Prop where
  frz : ∀ b ∈ fpp, Φ₀ b = none
  grd : ∀ b ∈ fpp, X.g.get? b = none
  prt : ∀ b ∈ fpp, B b = none

theorem Bx_le {fpp : List Addr} {h : Heap} (O : Ours X B Φ₀ fpp) : Fz.le B (Bx B fpp h) := fun b o e => by
  unfold Bx
  by_cases q : b ∈ fpp
  · rw [O.prt b q] at e; cases e
  · rw [if_neg q]; exact e

theorem Inv.ofX {fpp : List Addr} {h h' : Heap} (O : Ours X B Φ₀ fpp) (I : Inv X env names (Bx B fpp h') Φ₀ ρ σ Φ h) : Inv X env names B Φ₀ ρ σ Φ h := by
  have le := Bx_le (h := h') O
  obtain ⟨m, cm, μ, F, hB⟩ := I.fr
  have no : ∀ a, Bx B fpp h' a = none → B a = none := fun a e => by
    cases q : B a with
    | none => rfl
    | some o => rw [le a o q] at e; cases e
  refine ⟨I.ok, I.mono0, fun b o e => I.prot b o (le b o e), fun b hb hf => I.priv b (fun q => hb (no b q)) hf, m, cm, μ, F, fun a ha => no a (hB a ha)⟩

/-- iterators just made come under protection -/
theorem Inv.toX {fpp : List Addr} {h : Heap} (I : Inv X env names B Φ₀ ρ σ Φ h) {m cm : Str → Option Value} {μ : Nat → Option Addr} (F : FrameX X.g env names ρ σ Φ h m cm μ) (hB : ∀ a, Own env μ a → B a = none)
    (hn : ∀ b ∈ fpp, ¬ Own env μ b ∧ σ b = none ∧ Φ b = none) : Inv X env names (Bx B fpp h) Φ₀ ρ σ Φ h := by
  refine ⟨I.ok, I.mono0, fun b o e => ?_, fun b hb hf => ?_, m, cm, μ, F, fun a ha => ?_⟩
  · unfold Bx at e
    by_cases q : b ∈ fpp
    · rw [if_pos q] at e; exact ⟨e, (hn b q).2.1⟩
    · rw [if_neg q] at e; exact I.prot b o e
  · unfold Bx at hb
    by_cases q : b ∈ fpp
    · exact absurd (hn b q).2.2 hf
    · rw [if_neg q] at hb; exact I.priv b hb hf
  · unfold Bx
    by_cases q : a ∈ fpp
    · exact absurd ha (hn a q).1
    · rw [if_neg q]; exact hB a ha

/-- the iterator writes to its own objects -/
theorem Inv.writeX {fpp W : List Addr} {h h' : Heap} (O : Ours X B Φ₀ fpp) (I : Inv X env names (Bx B fpp h) Φ₀ ρ σ Φ h) (al : ∀ b ∈ fpp, ∃ o, h.get? b = some o) (hW : ∀ b ∈ W, b ∈ fpp)
    (hk : ∀ b o, b ∉ W → h.get? b = some o → h'.get? b = some o) : Inv X env names (Bx B fpp h') Φ₀ ρ σ Φ h' := by
  obtain ⟨m, cm, μ, F, hB⟩ := I.fr
  have inX : ∀ b ∈ fpp, ∃ o, Bx B fpp h b = some o := fun b hb => by
    obtain ⟨o, ho⟩ := al b hb
    exact ⟨o, by unfold Bx; rw [if_pos hb]; exact ho⟩
  have trk : ∀ b ∈ fpp, σ b = none := fun b hb => let ⟨o, ho⟩ := inX b hb; (I.prot b o ho).2
  have frz : ∀ b ∈ fpp, Φ b = none := fun b hb => by
    obtain ⟨o, ho⟩ := inX b hb
    cases q : Φ b with
    | none => rfl
    | some o' => exact absurd (O.frz b hb) (I.priv b (by rw [ho]; simp) (by rw [q]; simp))
  have own : ∀ b ∈ fpp, ¬ Own env μ b := fun b hb ha => by
    obtain ⟨o, ho⟩ := inX b hb
    rw [hB b ha] at ho; cases ho
  have ko : ∀ a o, Own env μ a → h.get? a = some o → h'.get? a = some o := fun a o ha e => hk a o (fun q => own a (hW a q) ha) e
  have F' : FrameX X.g env names ρ σ Φ h' m cm μ := {
    nd := F.nd
    len := F.len
    ns := F.ns.at' fun o e => ko _ o (.inl rfl) e
    cell := fun n c hc => let ⟨o, ho, hd⟩ := F.cell n c hc; ⟨o, ko c o (.inr (.inl ⟨n, mem_of_lookup hc⟩)) ho, hd⟩
    cellsIn := fun n c hc => let ⟨o, ho⟩ := F.cellsIn n c hc; ⟨o, ko c o (.inr (.inl ⟨n, hc⟩)) ho⟩
    hasCell := F.hasCell
    apart := F.apart
    offc := F.offc
    priv := F.priv
    vars := fun j y hj hacc => (F.vars j y hj hacc).mono (Fz.le.refl _) fun a o e ho => ko a o (.inr (.inr ⟨j, e⟩)) ho
    inj := F.inj
    offm := F.offm
    live := fun j a e => let ⟨o, ho⟩ := F.live j a e; ⟨o, ko a o (.inr (.inr ⟨j, e⟩)) ho⟩ }
  have ok' : Ok X.g σ Φ h' := by
    refine ⟨fun b o e => ⟨hk b o (fun q => ?_) (I.ok.base b o e).1, (I.ok.base b o e).2⟩, fun b o e => ⟨hk b o (fun q => ?_) (I.ok.frz b o e).1, (I.ok.frz b o e).2⟩, fun b t e => (I.ok.trk b t e).mono (Fz.le.refl _) fun o ho => hk b o (fun q => ?_) ho⟩
    · rw [O.grd b (hW b q)] at e; cases e
    · rw [frz b (hW b q)] at e; cases e
    · rw [trk b (hW b q)] at e; cases e
  refine ⟨ok', I.mono0, fun b o e => ?_, fun b hb hf => ?_, m, cm, μ, F', fun a ha => ?_⟩
  · unfold Bx at e
    by_cases q : b ∈ fpp
    · rw [if_pos q] at e; exact ⟨e, trk b q⟩
    · rw [if_neg q] at e
      obtain ⟨h1, h2⟩ := I.prot b o (Bx_le O b o e)
      exact ⟨hk b o (fun z => q (hW b z)) h1, h2⟩
  · by_cases q : b ∈ fpp
    · exact absurd (frz b q) hf
    · unfold Bx at hb
      rw [if_neg q] at hb
      refine I.priv b ?_ hf
      unfold Bx
      rw [if_neg q]; exact hb
  · by_cases q : a ∈ fpp
    · exact absurd ha (own a q)
    · have := hB a ha
      unfold Bx at this ⊢
      rw [if_neg q] at this ⊢
      exact this

/-- what stays under protection -/
theorem Bx_same {fpp : List Addr} {h h' : Heap} (al : ∀ b ∈ fpp, ∃ o, h.get? b = some o) (I : Inv X env names (Bx B fpp h) Φ₀ ρ σ Φ h') : (∀ b ∈ fpp, h'.get? b = h.get? b) ∧ Bx B fpp h' = Bx B fpp h := by
  have k : ∀ b ∈ fpp, h'.get? b = h.get? b := fun b hb => by
    obtain ⟨o, ho⟩ := al b hb
    rw [ho]
    exact (I.prot b o (by unfold Bx; rw [if_pos hb]; exact ho)).1
  refine ⟨k, funext fun b => ?_⟩
  unfold Bx
  by_cases q : b ∈ fpp
  · rw [if_pos q, if_pos q]; exact k b q
  · rw [if_neg q, if_neg q]

/-- what a turn hands to the target -/
def Got (Φ : Fz) (h : Heap) (target : Expr) (v : Value) (r : List D) : Prop := match target with
  | .Name .. => ∃ d, r = [d] ∧ Rd Φ v d
  | .Tuple .. => ∃ T vals, v = .ref T ∧ h.IsTuple T vals ∧ RdAll Φ vals.toList r
  | _ => False
theorem Got.mono {Φ Φ' : Fz} {h : Heap} {target : Expr} {v : Value} {r : List D} (hl : Fz.le Φ Φ') (g : Got Φ h target v r) : Got Φ' h target v r := by
  cases target <;> simp only [Got] at g ⊢
  · obtain ⟨d, h1, h2⟩ := g; exact ⟨d, h1, h2.mono hl⟩
  · obtain ⟨T, vals, h1, h2, h3⟩ := g; exact ⟨T, vals, h1, h2, h3.mono hl⟩

/-- an iterator that feeds the rows to the target: where it stands in the heap of s, made behind s₀ -/
structure Feeder (X : Cx) (A : Around) (target : Expr) (rows : List (List D)) (σ : Sg) (Φ : Fz) (s₀ s : Shared) (I : Addr) (fp wr : List Addr) (St : Nat → Heap → Prop) : Prop where
  sub : ∀ b ∈ wr, b ∈ fp
  frame : ∀ i h h', St i h → (∀ b ∈ fp, ∀ o, h.get? b = some o → h'.get? b = some o) → St i h'
  next : ∀ j (s' : Shared) (K : Value → Shared → Prop) r, rows[j]? = some r → St j s'.heap →
    (∀ v h₁ tk, Got Φ h₁ target v r → St (j + 1) h₁ → (∀ b o, b ∉ wr → s'.heap.get? b = some o → h₁.get? b = some o) → K v { s' with heap := h₁, toks := tk }) →
    wpAny (model X.prog X.w) A (pyNext (.ref I)) (fun r s₁ => ∃ v, r = some v ∧ wpAny (model X.prog X.w) A (letOwnedTupleGo target (.ref I) v) (fun _ s₂ => K v s₂) No s₁) No s'
  done : ∀ (s' : Shared) (K : Shared → Prop), St rows.length s'.heap →
    (∀ h₁ tk, (∀ b o, b ∉ wr → s'.heap.get? b = some o → h₁.get? b = some o) → K { s' with heap := h₁, toks := tk }) → wpAny (model X.prog X.w) A (pyNext (.ref I)) (fun r s₁ => r = none ∧ K s₁) No s'
  self : ∀ (s' : Shared) (K : Value → Shared → Prop), St 0 s'.heap → K (.ref I) s' → wpAny (model X.prog X.w) A (pyIter (.ref I)) K No s'
  st0 : St 0 s.heap
  inn : ∀ b ∈ fp, ∃ o, s.heap.get? b = some o
  new : ∀ b ∈ fp, Φ b ≠ none ∨ (s₀.heap.get? b = none ∧ σ b = none ∧ Φ b = none)
  wnew : ∀ b ∈ wr, s₀.heap.get? b = none ∧ σ b = none ∧ Φ b = none
  live : ∀ j h, St j h → ∀ b ∈ wr, ∃ o, h.get? b = some o

def SI (X : Cx) (n : Nat) (sc : Scope) (names : List Str) (target x : Expr) (it : It) (k : Nat) : Prop :=
  ∀ env A s Φ ρ σ Q, env.scope = sc → EnvOk env → Room n A → Ok X.g σ Φ s.heap → Frame X.g env names ρ σ Φ s.heap → mIt X n it k ρ σ Q →
    wpAny (model X.prog X.w) A (eval x env) (fun xv s₁ => wpAny (model X.prog X.w) A (pyIter xv) (fun itv s₂ => ∃ rows σ' Φ', Step X.g s s₂ Φ Φ' σ σ' ∧ Q rows σ' ∧ (∀ r ∈ rows, r.length = k) ∧
      ∃ I fp wr St, itv = .ref I ∧ Feeder X A target rows σ' Φ' s s₂ I fp wr St) No s₁) No s

/-- a name, or a tuple of names -/
def TgtOk (names : List Str) (sc : Scope) : Expr → List Nat → Prop
  | .Name x _, is => ∃ i, is = [i] ∧ names[i]? = some x ∧ stS sc x = true
  | .Tuple elts _ _, is => Tgts names sc elts is
  | _, _ => False

theorem assign_got {target : Expr} {is : List Nat} {v : Value} {r : List D} {K : Unit → Shared → Prop} (hr : Room n A) (eo : EnvOk env) (he : env.scope = sc) (ht : TgtOk names sc target is) (hl : r.length = is.length) (hg : Got Φ s.heap target v r)
    (I : Inv X env names B Φ₀ ρ σ Φ s.heap) (h : ∀ s', (∃ h' tk, s' = { s with heap := h', toks := tk }) → Inv X env names B Φ₀ (setAll ρ is r) σ Φ s'.heap → K () s') :
    wpAny (model X.prog X.w) A (assign target env v) K No s := by
  cases target <;> simp only [Got, TgtOk] at hg ht
  · obtain ⟨d, rfl, rd⟩ := hg
    obtain ⟨i, rfl, hi, hk⟩ := ht
    exact wpAny_assign_Name (I.storeV eo hi (st_of he hk) rd fun s' hs I' => h s' hs (by simpa [setAll] using I'))
  · obtain ⟨T, vals, rfl, hT, ra⟩ := hg
    have al := assignEach_len (env := env) ht
    have rl := ra.length
    refine wpAny_assign_Tuple hr.1 hT (by rw [al.1, ← hl, ← rl]; simp) al.2 fun h' hx => ?_
    have st' : Step X.g s { s with heap := h' } Φ Φ σ σ := Step.keeps (tk := s.toks) I.ok fun b o e => hx b o (Nat.ne_of_lt (Heap.lt_size e)) e
    refine assign_all eo he ht hl ra (I.step st') fun s' hs I' => ?_
    obtain ⟨h₂, tk₂, rfl⟩ := hs
    exact h _ ⟨h₂, tk₂, rfl⟩ I'

theorem meas_lt {a j : Nat} (h : j < a) : a + 1 - (j + 1) < a + 1 - j := by omega
theorem eq_of_ge {a j : Nat} (h : ¬ j < a) (h' : j ≤ a) : j = a := by omega
theorem le_size {a b c d : Nat} (h : a = b) (h1 : b ≤ c) (h2 : c < d) (h3 : d ≤ 2 ^ 20) : a ≤ sizeLine := by unfold sizeLine; omega
def notSet : Expr → Bool
  | .Set .. => false
  | _ => true
theorem folded_id {e : Expr} (h : notSet e = true) (x : Value) : foldedSetIterable e env x = pure x := by
  cases e <;> first | rfl | cases h

theorem SS_for {target : Expr} {is : List Nat} {iter : Expr} {it : It} {body : List Stmt} {mb : List S} {pos : Pos} (ht : TgtOk names sc target is) (hit : SI X n sc names target iter it is.length) (hb : SSs X n sc names body mb) (hs : notSet iter = true) :
    SS X n sc names (.For target iter body [] pos) (.for_ is it mb) := by
  intro env A s B Φ₀ ρ σ Φ Q he eo hr I h
  refine wpAny_For (wpAny_mono (hit env A s Φ ρ σ _ he eo hr I.ok I.frame h) (fun xv s₁ h₁ => wpAny_mono h₁ (fun itv s₂ h₂ => ?_) fun _ _ h => h.elim) fun _ _ h => h.elim) (folded_id hs)
  obtain ⟨rows, σ₁, Φ₁, st, q, hrl, Ia, fp, wr, St, rfl, fd⟩ := h₂
  obtain ⟨m, cm, μ, F, hB⟩ := I.fr
  have F₁ := F.step st
  have I₁ := I.step st
  classical
  -- the objects of the iterator that are its own
  let fpp := fp.filter fun b => decide (Φ₁ b = none)
  have mem : ∀ b, b ∈ fpp ↔ b ∈ fp ∧ Φ₁ b = none := fun b => by simp [fpp]
  have fresh : ∀ b ∈ fpp, s.heap.get? b = none ∧ σ₁ b = none ∧ Φ₁ b = none := fun b hb => by
    rcases fd.new b ((mem b).mp hb).1 with h | h
    · exact absurd ((mem b).mp hb).2 h
    · exact h
  have hold : ∀ b ∈ fpp, ∀ o, s.heap.get? b ≠ some o := fun b hb o e => by rw [(fresh b hb).1] at e; cases e
  have O : Ours X B Φ₀ fpp := ⟨fun b hb => by
      cases e : Φ₀ b with
      | none => rfl
      | some o => exact absurd (I.ok.frz b o (I.mono0 b o e)).1 (hold b hb o),
    fun b hb => by
      cases e : X.g.get? b with
      | none => rfl
      | some o => exact absurd (I.ok.base b o e).1 (hold b hb o),
    fun b hb => by
      cases e : B b with
      | none => rfl
      | some o => exact absurd (I.prot b o e).1 (hold b hb o)⟩
  have wsub : ∀ b ∈ wr, b ∈ fpp := fun b hb => (mem b).mpr ⟨fd.sub b hb, (fd.wnew b hb).2.2⟩
  have al₀ : ∀ b ∈ fpp, ∃ o, s₂.heap.get? b = some o := fun b hb => fd.inn b ((mem b).mp hb).1
  have IX : Inv X env names (Bx B fpp s₂.heap) Φ₀ ρ σ₁ Φ₁ s₂.heap := by
    refine I₁.toX F₁ hB fun b hb => ⟨fun ho => ?_, (fresh b hb).2⟩
    rcases ho with ho | ⟨n, ho⟩ | ⟨j, ho⟩
    · subst ho; obtain ⟨o, _, _, e, _⟩ := F.ns; exact hold _ hb o e
    · obtain ⟨o, e⟩ := F.cellsIn n b ho; exact hold b hb o e
    · obtain ⟨o, e⟩ := F.live j b ho; exact hold b hb o e
  obtain ⟨hp₂, tk₂, rfl⟩ := st.same
  refine codeAny_forLoop_any (R := fun r s' => match r with | .ok f => Ex X env names B Φ₀ s Φ Q f s' | .error e => cameBackBy _ A env No e s')
    (fun k s' => ∃ j ρ' σ' Φ', (∃ h' tk, s' = { s with heap := h', toks := tk }) ∧ Inv X env names (Bx B fpp s'.heap) Φ₀ ρ' σ' Φ' s'.heap ∧ Fz.le Φ₁ Φ' ∧ (∀ b ∈ fpp, ∃ o, s'.heap.get? b = some o) ∧ St j s'.heap ∧
      forT (mExecs X n mb) is (rows.drop j) ρ' σ' Q ∧ j ≤ rows.length ∧ k = rows.length + 1 - j) ?_ (rows.length + 1)
    ⟨0, ρ, σ₁, Φ₁, ⟨hp₂, tk₂, rfl⟩, IX, Fz.le.refl _, al₀, fd.st0, by simpa using q, Nat.zero_le _, rfl⟩
  rintro k s' ⟨j, ρ', σ', Φ', ⟨h', tk, rfl⟩, I', le', al', st', q', hj, rfl⟩
  by_cases hlt : j < rows.length
  · have hrow : rows[j]? = some rows[j] := List.getElem?_eq_getElem hlt
    refine wpAny_mono (fd.next j _ (fun v s₂ => wpAny (model X.prog X.w) A (assign target env v) (fun _ s₃ => wpAny (model X.prog X.w) A (execs body env) (fun f s₄ => match f with
            | .next | .cont => ∃ m, m < rows.length + 1 - j ∧ ∃ j ρ' σ' Φ', (∃ h' tk, s₄ = { s with heap := h', toks := tk }) ∧ Inv X env names (Bx B fpp s₄.heap) Φ₀ ρ' σ' Φ' s₄.heap ∧ Fz.le Φ₁ Φ' ∧ (∀ b ∈ fpp, ∃ o, s₄.heap.get? b = some o) ∧ St j s₄.heap ∧
                forT (mExecs X n mb) is (rows.drop j) ρ' σ' Q ∧ j ≤ rows.length ∧ m = rows.length + 1 - j
            | .brk => Ex X env names B Φ₀ s Φ Q .next s₄
            | .ret v => Ex X env names B Φ₀ s Φ Q (.ret v) s₄) No s₃) No s₂) rows[j] hrow st' fun v h₁ tk₁ hG hst₁ hk₁ => ?_) ?_ fun _ _ h => h.elim
    rotate_left
    · rintro r s₁ ⟨v, rfl, hv⟩
      exact wpAny_mono hv (fun _ s₂ h₂ => wpAny_mono h₂ (fun _ s₃ h₃ => wpAny_mono h₃ (fun f s₄ h₄ => by cases f <;> exact h₄) fun _ _ h => h.elim) fun _ _ h => h.elim) fun _ _ h => h.elim
    have al₁ : ∀ b ∈ fpp, ∃ o, h₁.get? b = some o := fun b hb => by
      by_cases hw : b ∈ wr
      · exact fd.live _ _ hst₁ b hw
      · obtain ⟨o, ho⟩ := al' b hb; exact ⟨o, hk₁ b o hw ho⟩
    have I₁' := Inv.writeX (h' := h₁) O I' al' wsub hk₁
    refine assign_got (s := { s with heap := h₁, toks := tk₁ }) hr eo he ht (hrl _ (List.getElem_mem hlt)) (hG.mono le') I₁' fun s₃ hs₃ I₃ => ?_
    obtain ⟨h₃, tk₃, rfl⟩ := hs₃
    obtain ⟨same₃, eqB⟩ := Bx_same al₁ I₃
    have frz : ∀ b, b ∈ fp → b ∉ fpp → ∃ o, Φ₁ b = some o := fun b hb hn => by
      cases e : Φ₁ b with
      | none => exact absurd ((mem b).mpr ⟨hb, e⟩) hn
      | some o => exact ⟨o, rfl⟩
    have st₃ : St (j + 1) h₃ := fd.frame _ _ _ hst₁ fun b hb o e => by
      by_cases hf : b ∈ fpp
      · exact (same₃ b hf).trans e
      · obtain ⟨o', ho'⟩ := frz b hb hf
        have e1 := (I₁'.ok.frz b o' (le' b o' ho')).1
        rw [e1] at e; cases e
        exact (I₃.ok.frz b o (le' b o ho')).1
    have hdrop : rows.drop j = rows[j] :: rows.drop (j + 1) := List.drop_eq_getElem_cons hlt
    rw [hdrop] at q'
    obtain ⟨P, q', hret, hnext⟩ := q'
    have al₃ : ∀ b ∈ fpp, ∃ o, h₃.get? b = some o := fun b hb => by rw [same₃ b hb]; exact al₁ b hb
    refine wpAny_mono (hb env A _ (Bx B fpp h₁) Φ₀ _ σ' Φ' _ he eo hr I₃ q') ?_ fun _ _ h => h.elim
    rintro f s₄ ⟨fl, ρ₄, σ₄, Φ₄, ⟨h₄, tk₄, rfl⟩, I₄, le₄, fr, q₄⟩
    cases fl with
    | next =>
      cases f <;> simp only [FlRel] at fr
      obtain ⟨same₄, eqB₄⟩ := Bx_same al₁ I₄
      refine ⟨rows.length + 1 - (j + 1), meas_lt hlt, j + 1, ρ₄, σ₄, Φ₄, ⟨h₄, tk₄, rfl⟩, ?_, le'.trans le₄, fun b hb => ?_, ?_, hnext _ _ q₄, hlt, rfl⟩
      · show Inv X env names (Bx B fpp h₄) Φ₀ ρ₄ σ₄ Φ₄ h₄
        rw [eqB₄]; exact I₄
      · show ∃ o, h₄.get? b = some o
        rw [same₄ b hb]; exact al₁ b hb
      · refine fd.frame _ _ _ hst₁ fun b hb o e => ?_
        by_cases hf : b ∈ fpp
        · exact (same₄ b hf).trans e
        · obtain ⟨o', ho'⟩ := frz b hb hf
          have e1 := (I₁'.ok.frz b o' (le' b o' ho')).1
          rw [e1] at e; cases e
          exact (I₄.ok.frz b o (le₄ b o (le' b o ho'))).1
    | ret d' =>
      cases f <;> simp only [FlRel] at fr
      exact ⟨.ret d', ρ₄, σ₄, Φ₄, ⟨h₄, tk₄, rfl⟩, I₄.ofX O, st.mono.trans (le'.trans le₄), fr, hret _ _ _ q₄⟩
  · have hje : j = rows.length := eq_of_ge hlt hj
    subst hje
    refine wpAny_mono (fd.done _ (fun s₁ => Ex X env names B Φ₀ s Φ Q .next s₁) st' fun h₁ tk₁ hk₁ => ?_) (by rintro r s₁ ⟨rfl, h⟩; exact wpAny_execs_nil h) fun _ _ h => h.elim
    have I₁' := Inv.writeX (h' := h₁) O I' al' wsub hk₁
    simp only [List.drop_length, forT] at q'
    exact ⟨.next, ρ', σ', Φ', ⟨h₁, tk₁, rfl⟩, I₁'.ofX O, st.mono.trans le', trivial, q'⟩
end
end Mine
set_option maxRecDepth 10000
namespace Mine
open PySem PyProof.Rows
section
variable {X : Cx} {n : Nat} {sc : Scope} {names : List Str}

/-- a walker of single values feeds a name -/
theorem Feeder.ofWalks {A : Around} {x : Str} {p : Pos} {rows : List (List D)} {σ : Sg} {Φ : Fz} {s₀ s : Shared} {I : Addr} {fp wr : List Addr} {P : Nat → Value → Prop} {St : Nat → Heap → Prop}
    (W : Walks X.prog X.w A I fp wr rows.length P St) (st0 : St 0 s.heap) (rd : ∀ j v, j < rows.length → P j v → ∃ d, rows[j]? = some [d] ∧ Rd Φ v d) (inn : ∀ b ∈ fp, ∃ o, s.heap.get? b = some o)
    (new : ∀ b ∈ fp, Φ b ≠ none ∨ (s₀.heap.get? b = none ∧ σ b = none ∧ Φ b = none)) (wnew : ∀ b ∈ wr, s₀.heap.get? b = none ∧ σ b = none ∧ Φ b = none) (live : ∀ j h, St j h → ∀ b ∈ wr, ∃ o, h.get? b = some o) :
    Feeder X A (.Name x p) rows σ Φ s₀ s I fp wr St where
  sub := W.sub
  frame := W.frame
  next := fun j s' K r hr hst h => by
    have hj : j < rows.length := (List.getElem?_eq_some_iff.mp hr).1
    refine W.item j s' _ _ hj hst fun v h₁ tk hP hst₁ hk => ⟨v, rfl, wpAny_pure (h v h₁ tk ?_ hst₁ hk)⟩
    obtain ⟨d, hd, r'⟩ := rd j v hj hP
    rw [hr] at hd; cases hd
    exact ⟨d, rfl, r'⟩
  done := fun s' K hst h => W.done s' _ _ hst fun h₁ tk hk => ⟨rfl, h h₁ tk hk⟩
  self := fun s' K hst h => W.self 0 s' _ _ hst h
  st0 := st0
  inn := inn
  new := new
  wnew := wnew
  live := live

/-- a walker of tuples feeds a tuple of names -/
theorem Feeder.ofWalksU {A : Around} {elts : List Expr} {k : Nat} {p : Pos} {rows : List (List D)} {σ : Sg} {Φ : Fz} {s₀ s : Shared} {I : Addr} {fp wr : List Addr} {P : Nat → Array Value → Prop} {St : Nat → Heap → Prop} {Mid : Nat → Addr → Heap → Prop}
    (W : WalksU X.prog X.w A I fp wr rows.length P St Mid) (st0 : St 0 s.heap) (rd : ∀ j vs, j < rows.length → P j vs → ∃ r, rows[j]? = some r ∧ RdAll Φ vs.toList r) (inn : ∀ b ∈ fp, ∃ o, s.heap.get? b = some o)
    (new : ∀ b ∈ fp, Φ b ≠ none ∨ (s₀.heap.get? b = none ∧ σ b = none ∧ Φ b = none)) (wnew : ∀ b ∈ wr, s₀.heap.get? b = none ∧ σ b = none ∧ Φ b = none) (live : ∀ j h, St j h → ∀ b ∈ wr, ∃ o, h.get? b = some o) :
    Feeder X A (.Tuple elts k p) rows σ Φ s₀ s I fp wr St where
  sub := W.sub
  frame := W.frame
  next := fun j s' K r hr hst h => by
    have hj : j < rows.length := (List.getElem?_eq_some_iff.mp hr).1
    refine W.item j s' _ _ hj hst fun T vals h₁ tk hP hT hm hk => ⟨.ref T, rfl, W.go elts k p j T _ _ _ hm fun h₂ hst₂ hk₂ => h (.ref T) h₂ tk ?_ hst₂ fun b o hb e => hk₂ b o hb (hk b o hb e)⟩
    obtain ⟨r', hr', ra⟩ := rd j vals hj hP
    rw [hr] at hr'; cases hr'
    exact ⟨T, vals, rfl, hT.at fun o e => hk₂ T o (W.apart j T h₁ hm) e, ra⟩
  done := fun s' K hst h => W.done s' _ _ hst fun h₁ tk hk => ⟨rfl, h h₁ tk hk⟩
  self := fun s' K hst h => W.self 0 s' _ _ hst h
  st0 := st0
  inn := inn
  new := new
  wnew := wnew
  live := live

theorem SI_seq {x : Expr} {e : E} {y : Str} {p : Pos} (hx : SE X n sc names x e) : SI X n sc names (.Name y p) x (.seq e) 1 := by
  intro env A s Φ ρ σ Q he eo hroom ok F h
  refine wpAny_mono (hx env A s Φ ρ σ _ he eo hroom ok F h) ?_ fun _ _ h => h.elim
  rintro v s₁ ⟨d, σ₁, Φ₁, st, r, rows, hrows, q⟩
  have hn := size_none s₁.heap
  cases hrows with
  | many rows h1 => exact absurd rfl h1
  | one ds =>
    obtain ⟨a, rfl⟩ := r.lst_ref
    obtain ⟨vs, hl, ra, hfa⟩ := r.isList st.ok
    have hlen := ra.length
    simp only [Array.length_toList] at hlen
    have ha : ∃ o, s₁.heap.get? a = some o := let ⟨o, ho, _⟩ := hl; ⟨o, ho⟩
    have hne : a ≠ s₁.heap.objs.size := fun q => by obtain ⟨o, ho⟩ := ha; rw [q, hn] at ho; cases ho
    refine wpAny_pyIter_list hl ?_
    have st₂ := push_step st.ok { cls := .type "list_iterator", data := .fields #[.ref a, .int 0 0] }
    have hrl : (ds.map fun d => [d]).length = vs.size := by simp [hlen]
    refine ⟨_, σ₁, Φ₁, st.trans st₂, q, by simp, s₁.heap.objs.size, [s₁.heap.objs.size, a], [s₁.heap.objs.size], (fun i h => h.IsListIter s₁.heap.objs.size a i ∧ h.IsList a vs), rfl, ?_⟩
    refine .ofWalks (P := fun i v => vs[i]? = some v) (hrl ▸ Walks.list hroom.1 s₁.heap.objs.size a hne vs) ⟨⟨_, Heap.get?_push_size _ rfl, rfl, rfl⟩, hl.push _⟩ (fun j v hj hv => ?_) (fun b hb => ?_) (fun b hb => ?_) (fun b hb => ?_) (fun j h hst b hb => ?_)
    · obtain ⟨d, hd, r⟩ := ra.get' (k := j) (v := v) (by simpa using hv)
      exact ⟨d, by simp [hd], r⟩
    · rcases List.mem_cons.mp hb with rfl | hb
      · exact ⟨_, Heap.get?_push_size _ rfl⟩
      · rcases List.mem_cons.mp hb with rfl | hb
        · obtain ⟨o, ho⟩ := ha; exact ⟨o, Heap.get?_push_of_some _ ho⟩
        · cases hb
    · rcases List.mem_cons.mp hb with rfl | hb
      · exact .inr ⟨st.live _ hn, st.ok.freshS hn, st.ok.freshF hn⟩
      · rcases List.mem_cons.mp hb with rfl | hb
        · exact .inl hfa
        · cases hb
    · rcases List.mem_cons.mp hb with rfl | hb
      · exact ⟨st.live _ hn, st.ok.freshS hn, st.ok.freshF hn⟩
      · cases hb
    · rcases List.mem_cons.mp hb with rfl | hb
      · obtain ⟨o, ho, _⟩ := hst.1; exact ⟨o, ho⟩
      · cases hb
  | tup ds =>
    obtain ⟨a, rfl⟩ := r.tup_ref
    obtain ⟨vs, hl, ra, hfa⟩ := r.isTup st.ok
    have hlen := ra.length
    simp only [Array.length_toList] at hlen
    have ha : ∃ o, s₁.heap.get? a = some o := let ⟨o, ho, _⟩ := hl; ⟨o, ho⟩
    have hne : a ≠ s₁.heap.objs.size := fun q => by obtain ⟨o, ho⟩ := ha; rw [q, hn] at ho; cases ho
    refine wpAny_pyIter_tuple hl ?_
    have st₂ := push_step st.ok { cls := .type "tuple_iterator", data := .fields #[.ref a, .int 0 0] }
    have hrl : (ds.map fun d => [d]).length = vs.size := by simp [hlen]
    refine ⟨_, σ₁, Φ₁, st.trans st₂, q, by simp, s₁.heap.objs.size, [s₁.heap.objs.size, a], [s₁.heap.objs.size], (fun i h => h.IsTupleIter s₁.heap.objs.size a i ∧ h.IsTuple a vs), rfl, ?_⟩
    refine .ofWalks (P := fun i v => vs[i]? = some v) (hrl ▸ Walks.tuple hroom.1 s₁.heap.objs.size a hne vs) ⟨⟨_, Heap.get?_push_size _ rfl, rfl, rfl⟩, Heap.IsTuple.push hl _⟩ (fun j v hj hv => ?_) (fun b hb => ?_) (fun b hb => ?_) (fun b hb => ?_) (fun j h hst b hb => ?_)
    · obtain ⟨d, hd, r⟩ := ra.get' (k := j) (v := v) (by simpa using hv)
      exact ⟨d, by simp [hd], r⟩
    · rcases List.mem_cons.mp hb with rfl | hb
      · exact ⟨_, Heap.get?_push_size _ rfl⟩
      · rcases List.mem_cons.mp hb with rfl | hb
        · obtain ⟨o, ho⟩ := ha; exact ⟨o, Heap.get?_push_of_some _ ho⟩
        · cases hb
    · rcases List.mem_cons.mp hb with rfl | hb
      · exact .inr ⟨st.live _ hn, st.ok.freshS hn, st.ok.freshF hn⟩
      · rcases List.mem_cons.mp hb with rfl | hb
        · exact .inl hfa
        · cases hb
    · rcases List.mem_cons.mp hb with rfl | hb
      · exact ⟨st.live _ hn, st.ok.freshS hn, st.ok.freshF hn⟩
      · cases hb
    · rcases List.mem_cons.mp hb with rfl | hb
      · obtain ⟨o, ho, _⟩ := hst.1; exact ⟨o, ho⟩
      · cases hb

theorem SI_range {x : Expr} {e : E} {y : Str} {py p pos : Pos} (G : Gnd X) (hx : SE X n sc names x e) (hk : sc.names.lookup ("range" : Str) = some .globalImplicit) (hs : notStar x = true) :
    SI X n sc names (.Name y py) (.Call (.Name "range" p) [x] [] pos) (.range e) 1 := by
  intro env A s Φ ρ σ Q he eo hroom ok F h
  refine range_obj G hx hk hs he eo hroom ok F h (fun d σ q => ?_) ?_
  · obtain ⟨i, e, _⟩ := q; exact ⟨i, e⟩
  intro r i t s₁ s₂ σ₁ Φ₁ st st₂ hnr q hr
  obtain ⟨u, w, hr⟩ := hr
  obtain ⟨_, ei, _, q⟩ := q
  cases ei
  have hn := size_none s₂.heap
  have stt := st.trans st₂
  refine wpAny_pyIter_range hr (small_one (by decide) (by decide) q.1 q.2.1) ?_
  have hsz : Builtin.Range.rangeSize 0 i 1 = (i.toNat : Int) := by rw [rangeSize_one]; split <;> omega
  have st₃ := push_step st₂.ok { cls := .type "range_iterator", data := .fields #[rawInt 0, rawInt (Builtin.Range.rangeSize 0 i 1), rawInt 1] }
  have hrl : ((List.range i.toNat).map fun (j : Nat) => [D.int (j : Int)]).length = i.toNat := by simp
  refine ⟨_, σ₁, Φ₁, stt.trans st₃, q.2.2, by simp, s₂.heap.objs.size, [s₂.heap.objs.size], [s₂.heap.objs.size], (fun j h => IsRangeIter h s₂.heap.objs.size (0 + (j : Nat) * 1) ((i.toNat : Int) - (j : Nat)) 1), rfl, ?_⟩
  refine .ofWalks (P := fun (j : Nat) v => ∃ t, v = .int (0 + (j : Int) * 1) t) (by rw [hrl]; exact Walks.range hroom.1 s₂.heap.objs.size 0 1 i.toNat) ?_ (fun j v hj hv => ?_) (fun b hb => ?_) (fun b hb => ?_) (fun b hb => ?_) (fun j h hst b hb => ?_)
  · have e1 : (0 + ((0 : Nat) : Int) * 1) = 0 := by simp
    have e2 : ((i.toNat : Int) - ((0 : Nat) : Int)) = Builtin.Range.rangeSize 0 i 1 := by rw [hsz]; simp
    rw [e1, e2]
    exact Heap.get?_push_size _ rfl
  · obtain ⟨t, rfl⟩ := hv
    rw [hrl] at hj
    refine ⟨.int j, by simp [hj], ?_⟩
    have : (0 + (j : Int) * 1) = j := by omega
    rw [this]
    exact .int _ _
  · rcases List.mem_cons.mp hb with rfl | hb
    · exact ⟨_, Heap.get?_push_size _ rfl⟩
    · cases hb
  · rcases List.mem_cons.mp hb with rfl | hb
    · exact .inr ⟨stt.live _ hn, st₂.ok.freshS hn, st₂.ok.freshF hn⟩
    · cases hb
  · rcases List.mem_cons.mp hb with rfl | hb
    · exact ⟨stt.live _ hn, st₂.ok.freshS hn, st₂.ok.freshF hn⟩
    · cases hb
  · rcases List.mem_cons.mp hb with rfl | hb
    · exact ⟨_, hst⟩
    · cases hb
end
end Mine
set_option maxRecDepth 10000
namespace Mine
open PySem PyProof.Rows
/-! ## comprehensions -/

theorem Step.write {g : Heap} {s s' : Shared} {Φ Φ' : Fz} {σ σ' : Sg} (x : Step g s s' Φ Φ' σ σ') (okS : Ok g σ Φ s.heap) {h₁ : Heap} {tk : Nat} {W : List Addr} (hW : ∀ b ∈ W, s.heap.get? b = none ∧ σ' b = none ∧ Φ' b = none)
    (hk : ∀ b o, b ∉ W → s'.heap.get? b = some o → h₁.get? b = some o) : Step g s { s' with heap := h₁, toks := tk } Φ Φ' σ σ' := by
  obtain ⟨hp, t0, rfl⟩ := x.same
  refine ⟨⟨h₁, tk, rfl⟩, fun b o e hs => hk b o (fun q => ?_) (x.keep b o e hs), x.mono, ⟨fun b o e => ⟨hk b o (fun q => ?_) (x.ok.base b o e).1, (x.ok.base b o e).2⟩, fun b o e => ⟨hk b o (fun q => ?_) (x.ok.frz b o e).1, (x.ok.frz b o e).2⟩,
    fun b t e => (x.ok.trk b t e).mono (Fz.le.refl _) fun o ho => hk b o (fun q => ?_) ho⟩, x.newS, x.newF, fun b hb => ?_⟩
  · rw [(hW b q).1] at e; cases e
  · have := (okS.base b o e).1; rw [(hW b q).1] at this; cases this
  · rw [(hW b q).2.2] at e; cases e
  · rw [(hW b q).2.1] at e; cases e
  · by_cases q : b ∈ W
    · exact (hW b q).1
    · cases e : hp.get? b with
      | none => exact x.live b e
      | some o => have := hk b o q e; rw [show h₁.get? b = none from hb] at this; cases this

theorem FrameX.kept {g : Heap} {env : Env} {names : List Str} {ρ : List MV} {σ : Sg} {Φ : Fz} {h h' : Heap} {m cm : Str → Option Value} {μ : Nat → Option Addr} (F : FrameX g env names ρ σ Φ h m cm μ)
    (ko : ∀ a o, Own env μ a → h.get? a = some o → h'.get? a = some o) : FrameX g env names ρ σ Φ h' m cm μ where
  nd := F.nd
  len := F.len
  ns := F.ns.at' fun o e => ko _ o (.inl rfl) e
  cell := fun n c hc => let ⟨o, ho, hd⟩ := F.cell n c hc; ⟨o, ko c o (.inr (.inl ⟨n, mem_of_lookup hc⟩)) ho, hd⟩
  cellsIn := fun n c hc => let ⟨o, ho⟩ := F.cellsIn n c hc; ⟨o, ko c o (.inr (.inl ⟨n, hc⟩)) ho⟩
  hasCell := F.hasCell
  apart := F.apart
  offc := F.offc
  priv := F.priv
  vars := fun j y hj hacc => (F.vars j y hj hacc).mono (Fz.le.refl _) fun a o e ho => ko a o (.inr (.inr ⟨j, e⟩)) ho
  inj := F.inj
  offm := F.offm
  live := fun j a e => let ⟨o, ho⟩ := F.live j a e; ⟨o, ko a o (.inr (.inr ⟨j, e⟩)) ho⟩

/-- the names of a row are forgotten -/
def unbAll (ρ : List MV) : List Nat → List MV
  | [] => ρ
  | i :: is => unbAll (ρ.set i .unb) is

theorem unbAll_len (is : List Nat) : ∀ ρ : List MV, (unbAll ρ is).length = ρ.length := by
  induction is with
  | nil => intro ρ; rfl
  | cons i is ih => intro ρ; rw [unbAll, ih, List.length_set]
theorem setAll_len : ∀ (is : List Nat) (ds : List D) (ρ : List MV), (setAll ρ is ds).length = ρ.length
  | [], _, ρ => by simp [setAll]
  | _ :: _, [], ρ => by simp [setAll]
  | i :: is, d :: ds, ρ => by simp [setAll, setAll_len is ds]
theorem unbAll_out (is : List Nat) : ∀ (ρ : List MV) (j : Nat), j ∉ is → (unbAll ρ is)[j]? = ρ[j]? := by
  induction is with
  | nil => intro ρ j _; rfl
  | cons i is ih =>
    intro ρ j hj
    simp only [List.mem_cons, not_or] at hj
    rw [unbAll, ih _ _ hj.2, List.getElem?_set_ne (Ne.symm hj.1)]
theorem unbAll_in (is : List Nat) : ∀ (ρ : List MV) (j : Nat), j ∈ is → (unbAll ρ is).getD j .unb = .unb := by
  induction is with
  | nil => intro ρ j h; cases h
  | cons i is ih =>
    intro ρ j hj
    rw [unbAll]
    by_cases q : j ∈ is
    · exact ih _ _ q
    · have hji : j = i := by
        rcases List.mem_cons.mp hj with h | h
        · exact h
        · exact absurd h q
      subst hji
      have := unbAll_out is (ρ.set j .unb) j q
      simp only [List.getD, this]
      by_cases hl : j < ρ.length
      · simp [hl]
      · rw [List.getElem?_eq_none (by simpa using hl)]; rfl
theorem setAll_agree : ∀ (is : List Nat) (ds : List D) (ρ₁ ρ₂ : List MV), ds.length = is.length → ρ₁.length = ρ₂.length → (∀ j, j ∉ is → ρ₁[j]? = ρ₂[j]?) → setAll ρ₁ is ds = setAll ρ₂ is ds
  | [], ds, ρ₁, ρ₂, _, _, h => by
    simp only [setAll]
    exact List.ext_getElem? fun j => h j (by simp)
  | _ :: _, [], _, _, hl, _, _ => by simp at hl
  | i :: is, d :: ds, ρ₁, ρ₂, hl, hlen, h => by
    simp only [setAll]
    refine setAll_agree is ds _ _ (by simpa using hl) (by simpa using hlen) fun j hj => ?_
    by_cases q : i = j
    · subst q
      by_cases hi : i < ρ₁.length
      · rw [List.getElem?_set_self hi, List.getElem?_set_self (hlen ▸ hi)]
      · rw [List.getElem?_eq_none (by simpa using hi), List.getElem?_eq_none (by simp; omega)]
    · rw [List.getElem?_set_ne q, List.getElem?_set_ne q]
      exact h j (by simp only [List.mem_cons, not_or]; exact ⟨Ne.symm q, hj⟩)
theorem setAll_unb {is : List Nat} {ds : List D} {ρ : List MV} (h : ds.length = is.length) : setAll (unbAll ρ is) is ds = setAll ρ is ds :=
  setAll_agree is ds _ _ h (unbAll_len is ρ) fun j hj => unbAll_out is ρ j hj

theorem setAll_out : ∀ (is : List Nat) (ds : List D) (ρ : List MV) (j : Nat), j ∉ is → (setAll ρ is ds)[j]? = ρ[j]?
  | [], ds, ρ, j, _ => by simp [setAll]
  | _ :: _, [], ρ, j, _ => by simp [setAll]
  | i :: is, d :: ds, ρ, j, h => by
    simp only [List.mem_cons, not_or] at h
    rw [setAll, setAll_out is ds _ j h.2, List.getElem?_set_ne (Ne.symm h.1)]

theorem FrameX.weaken {g : Heap} {env : Env} {names : List Str} {ρ₁ ρ₂ : List MV} {σ : Sg} {Φ : Fz} {h : Heap} {m cm : Str → Option Value} {μ : Nat → Option Addr} (F : FrameX g env names ρ₁ σ Φ h m cm μ)
    (hl : ρ₂.length = ρ₁.length) (hw : ∀ j, ρ₂.getD j .unb = ρ₁.getD j .unb ∨ (ρ₂.getD j .unb = .unb ∧ μ j = none)) : FrameX g env names ρ₂ σ Φ h m cm μ :=
  { F with
    len := hl.trans F.len
    vars := fun j y hj hacc => by
      rcases hw j with e | ⟨e1, e2⟩
      · rw [e]; exact F.vars j y hj hacc
      · rw [e1]; exact e2 }

section
variable {X : Cx} {n : Nat} {sc : Scope} {names : List Str}

/-- a comprehension's own frame, between its turns -/
structure CF (X : Cx) (env' : Env) (names : List Str) (s : Shared) (Φ : Fz) (σ : Sg) (cm : Str → Option Value) (μ : Nat → Option Addr) (ρ' : List MV) (s' : Shared) (Φ' : Fz) (σ' : Sg) : Prop where
  step : Step X.g s s' Φ Φ' σ σ'
  fr : ∃ m, FrameX X.g env' names ρ' σ' Φ' s'.heap m cm μ

variable {env' : Env} {s : Shared} {Φ : Fz} {σ : Sg} {cm : Str → Option Value} {μ : Nat → Option Addr} {A : Around}

theorem CF.store {ρ' : List MV} {s' : Shared} {Φ' : Fz} {σ' : Sg} {i : Nat} {x : Str} {v : Value} {d : D} {K : Unit → Shared → Prop} (c : CF X env' names s Φ σ cm μ ρ' s' Φ' σ') (okS : Ok X.g σ Φ s.heap) (hC : s.heap.get? env'.locals = none) (eo : EnvOk env')
    (hi : names[i]? = some x) (hk : env'.kindOf x = some .local) (hμ : μ i = none) (r : Rd Φ' v d)
    (h : ∀ h₁ tk, CF X env' names s Φ σ cm μ (ρ'.set i (.val d)) { s' with heap := h₁, toks := tk } Φ' σ' → (∀ b o, b ≠ env'.locals → s'.heap.get? b = some o → h₁.get? b = some o) → K () { s' with heap := h₁, toks := tk }) :
    wpAny (model X.prog X.w) A (storeName env' x v) K No s' := by
  obtain ⟨m, F⟩ := c.fr
  refine wpAny_storeName_local hk F.ns (fun h' hn hs => ?_) (by rw [eo.kind]; rfl)
  have p := F.priv env'.locals (.inl rfl)
  refine h h' _ ⟨c.step.write okS (W := [env'.locals]) (fun b hb => ?_) fun b o hb e => (hs.2 b (by simpa using hb)).trans e, (fun y => if y = x then some v else m y), ?_⟩ fun b o hb e => (hs.2 b hb).trans e
  · have : b = env'.locals := by simpa using hb
    subst this
    exact ⟨hC, p.1, p.2.1⟩
  · have hm : (fun j => if j = i then none else μ j) = μ := funext fun j => by
      by_cases q : j = i
      · simp [q, hμ]
      · simp [q]
    have hlv : ∃ o, h'.get? env'.locals = some o := by obtain ⟨o, _, _, ho, _⟩ := hn; exact ⟨o, ho⟩
    have := F.put (μi := none) (mv := .val d) hi (.inl rfl) hs hn (fun n c hc => (F.cell n c hc).sameBut hs (F.offc n c (mem_of_lookup hc))) hlv (look_put hk) (fun y hy => look_put_ne hy) ⟨rfl, v, rfl, r⟩ (fun a e => by cases e)
    rw [hm] at this
    exact this

/-- the targets of a comprehension: names of its own -/
def TgtsL (names : List Str) (sc' : Scope) : List Expr → List Nat → Prop
  | [], [] => True
  | .Name x _ :: es, i :: is => names[i]? = some x ∧ sc'.names.lookup x = some .local ∧ TgtsL names sc' es is
  | _, _ => False
theorem TgtsL.tgts {sc' : Scope} : ∀ {es : List Expr} {is : List Nat}, TgtsL names sc' es is → Tgts names sc' es is
  | [], [], _ => trivial
  | [], _ :: _, h => by simp [TgtsL] at h
  | e :: es, [], h => by cases e <;> simp [TgtsL] at h
  | e :: es, i :: is, h => by
    cases e <;> simp only [TgtsL] at h
    exact ⟨h.1, by simp [stS, h.2.1], h.2.2.tgts⟩
def TgtOkL (names : List Str) (sc' : Scope) : Expr → List Nat → Prop
  | .Name x _, is => ∃ i, is = [i] ∧ names[i]? = some x ∧ sc'.names.lookup x = some .local
  | .Tuple elts _ _, is => TgtsL names sc' elts is
  | _, _ => False

theorem CF.assign_all {sc' : Scope} (eo : EnvOk env') (he : env'.scope = sc') (okS : Ok X.g σ Φ s.heap) (hC : s.heap.get? env'.locals = none) {Φ' : Fz} {σ' : Sg} :
    ∀ {es : List Expr} {is : List Nat} {vs : List Value} {ds : List D} {ρ' : List MV} {s' : Shared} {K : Unit → Shared → Prop}, TgtsL names sc' es is → (∀ i ∈ is, μ i = none) → ds.length = is.length → RdAll Φ' vs ds →
    CF X env' names s Φ σ cm μ ρ' s' Φ' σ' →
    (∀ h₁ tk, CF X env' names s Φ σ cm μ (setAll ρ' is ds) { s' with heap := h₁, toks := tk } Φ' σ' → (∀ b o, b ≠ env'.locals → s'.heap.get? b = some o → h₁.get? b = some o) → K () { s' with heap := h₁, toks := tk }) →
    wpAny (model X.prog X.w) A (assignInOrder ((assignEach es env').map (·.2)) vs) K No s'
  | [], [], vs, ds, ρ', s', K, _, _, hlen, r, c, h => by
    have : ds = [] := by simpa using hlen
    subst this
    cases r
    exact wpAny_pure (h s'.heap s'.toks (by simpa [setAll] using c) fun _ _ _ e => e)
  | [], _ :: _, _, _, _, _, _, ht, _, _, _, _, _ => by simp [TgtsL] at ht
  | e :: _, [], _, _, _, _, _, ht, _, _, _, _, _ => by cases e <;> simp [TgtsL] at ht
  | e :: es, i :: is, vs, ds, ρ', s', K, ht, hμ, hlen, r, c, h => by
    cases e <;> simp only [TgtsL] at ht
    rename_i x p
    cases r with
    | nil => simp at hlen
    | cons r1 r2 =>
      show wpAny _ A (do holding _ (assign (.Name x p) env' _); assignInOrder ((assignEach es env').map (·.2)) _) _ _ s'
      refine wpAny_bind (wpAny_holding (wpAny_assign_Name (c.store okS hC eo ht.1 (by rw [Env.kindOf_sc he]; exact ht.2.1) (hμ i (.head _)) r1 fun h₁ tk c₁ k₁ => ?_)))
      refine CF.assign_all eo he okS hC ht.2.2 (fun j hj => hμ j (.tail _ hj)) (by simpa using hlen) r2 c₁ fun h₂ tk₂ c₂ k₂ => ?_
      exact h h₂ tk₂ (by simpa [setAll] using c₂) fun b o hb e => k₂ b o hb (k₁ b o hb e)

theorem CF.assign_got {sc' : Scope} {target : Expr} {is : List Nat} {v : Value} {r : List D} {ρ' : List MV} {s' : Shared} {Φ' : Fz} {σ' : Sg} {K : Unit → Shared → Prop} (hr : Room n A) (eo : EnvOk env') (he : env'.scope = sc') (okS : Ok X.g σ Φ s.heap)
    (hC : s.heap.get? env'.locals = none) (ht : TgtOkL names sc' target is) (hμ : ∀ i ∈ is, μ i = none) (hl : r.length = is.length) (hg : Got Φ' s'.heap target v r) (c : CF X env' names s Φ σ cm μ ρ' s' Φ' σ')
    (h : ∀ h₁ tk, CF X env' names s Φ σ cm μ (setAll ρ' is r) { s' with heap := h₁, toks := tk } Φ' σ' → (∀ b o, b ≠ env'.locals → s'.heap.get? b = some o → h₁.get? b = some o) → K () { s' with heap := h₁, toks := tk }) :
    wpAny (model X.prog X.w) A (assign target env' v) K No s' := by
  cases target <;> simp only [Got, TgtOkL] at hg ht
  · obtain ⟨d, rfl, rd⟩ := hg
    obtain ⟨i, rfl, hi, hk⟩ := ht
    exact wpAny_assign_Name (c.store okS hC eo hi (by rw [Env.kindOf_sc he]; exact hk) (hμ i (by simp)) rd fun h₁ tk c₁ k₁ => h h₁ tk (by simpa [setAll] using c₁) k₁)
  · obtain ⟨T, vals, rfl, hT, ra⟩ := hg
    have al := assignEach_len (env := env') ht.tgts
    have rl := ra.length
    refine wpAny_assign_Tuple hr.1 hT (by rw [al.1, ← hl, ← rl]; simp) al.2 fun h' hx => ?_
    have k' : ∀ b o, s'.heap.get? b = some o → h'.get? b = some o := fun b o e => hx b o (Nat.ne_of_lt (Heap.lt_size e)) e
    have st' : Step X.g s' { s' with heap := h' } Φ' Φ' σ' σ' := Step.keeps (tk := s'.toks) c.step.ok k'
    have c' : CF X env' names s Φ σ cm μ ρ' { s' with heap := h' } Φ' σ' := ⟨c.step.trans st', let ⟨m, F⟩ := c.fr; ⟨m, F.step st'⟩⟩
    exact CF.assign_all eo he okS hC ht hμ hl ra c' fun h₁ tk c₁ k₁ => h h₁ tk c₁ fun b o hb e => k₁ b o hb (k' b o e)
end
end Mine
set_option maxRecDepth 10000
namespace Mine
open PySem PyProof.Rows
section
variable {X : Cx} {n : Nat} {sc : Scope} {names : List Str}

/-- the turns of a list comprehension, whatever the target -/
theorem compLoop_any {prog : Program} {w : World} {A : Around} {R : Result → Shared → Prop} {s : Shared} {elt target iter : Expr} {ifs : List Expr} {scope : Scope} {pos : Pos} {it acc : Value} {env : Env} (I : Nat → Shared → Prop)
    (turn : ∀ n s, I n s → wpAny (model prog w) A (pyNext it) (fun r s₁ => match r with
      | none => R (.ok .next) s₁
      | some v => wpAny (model prog w) A (letOwnedTupleGo target it v) (fun _ s₁' => wpAny (model prog w) A (assign target env v) (fun _ s₂ =>
          wpAny (model prog w) A (forIn ifs true fun c r => if r = true then do let ok ← isTrue c env (eval c env); pure (ForInStep.yield ok) else pure (ForInStep.yield r)) (fun ok s₃ =>
            if ok = true then wpAny (model prog w) A (eval elt env) (fun x s₄ => wpAny (model prog w) A (call (.builtin "list.append") [acc, x]) (fun _ s₅ => ∃ m, m < n ∧ I m s₅) No s₄) No s₃
            else ∃ m, m < n ∧ I m s₃) No s₂) No s₁') No s₁) No s)
    (n : Nat) (h : I n s) : codeAny (model prog w) A (.compLoop (.ListComp elt [⟨target, iter, ifs, 0⟩] scope pos) 0 it acc env) R s := by
  refine codeAny_loop rfl I (fun n s hI => ?_) n h
  show wpAny _ A ((compTurn (.ListComp elt [⟨target, iter, ifs, 0⟩] scope pos) 0 it acc env).onRaise (fun x => do noteFrame x env; theTreesLotGoes x)) _ _ s
  refine wpAny_noted ?_
  rw [compTurn_list]
  refine wpAny_bind (wpAny_standAt (wpAny_bind (wpAny_mono (turn n s hI) (fun r s₁ h₁ => ?_) fun _ _ h => h.elim)))
  cases r with
  | none => exact wpAny_pure h₁
  | some v =>
    refine wpAny_bind (wpAny_mono h₁ (fun _ s₁' h₁' => ?_) fun _ _ h => h.elim)
    refine wpAny_bind (wpAny_mono h₁' (fun _ s₂ h₂ => ?_) fun _ _ h => h.elim)
    refine wpAny_bind (wpAny_mono h₂ (fun ok s₃ h₃ => ?_) fun _ _ h => h.elim)
    cases ok with
    | false => exact wpAny_bind (wpAny_pure (wpAny_pure ⟨rfl, h₃⟩))
    | true =>
      simp only [if_true] at h₃ ⊢
      exact wpAny_bind (wpAny_bind (wpAny_mono h₃ (fun x s₄ h₄ => wpAny_bind (wpAny_mono h₄ (fun _ s₅ h₅ => wpAny_pure (wpAny_pure ⟨rfl, h₅⟩)) fun _ _ h => h.elim)) fun _ _ h => h.elim))

/-- a scope within a scope, its free names as the outer one has them -/
def rl (sc scope : Scope) : Scope :=
  { scope with names := scope.names.map fun (n, k) => if (k == .free && sc.kind == .function && sc.names.lookup n == some .cell) then (n, .cell) else (n, k) }
theorem rl_eq {env : Env} (he : env.scope = sc) (scope : Scope) : relabel scope env = rl sc scope := by
  subst he; rfl

/-- the cells that a comprehension takes along -/
def clos (cells : List (Str × Addr)) : List (Str × NameKind) → List (Str × Addr) → List (Str × Addr)
  | [], acc => acc
  | (n, k) :: r, acc => if k == .free then clos cells r ((n, (cells.lookup n).getD 0) :: acc) else clos cells r acc

theorem clos_loop {env : Env} : ∀ (names : List (Str × NameKind)) (acc : List (Str × Addr)), (∀ x, (x, NameKind.free) ∈ names → (env.cells.lookup x).isSome = true) →
    (forIn names acc (fun x r => if (x.2 == NameKind.free) = true then (do let c ← cellOf env x.1; pure (ForInStep.yield ((x.1, c) :: r))) else pure (ForInStep.yield r)) : Sem (List (Str × Addr))) = pure (clos env.cells names acc)
  | [], acc, _ => by rw [List.forIn_nil]; rfl
  | (x, k) :: r, acc, h => by
    rw [List.forIn_cons]
    unfold clos
    by_cases hk : (k == NameKind.free) = true
    · have hk' : k = .free := by simpa using hk
      subst hk'
      obtain ⟨c, hc⟩ := Option.isSome_iff_exists.mp (h x (.head _))
      have e : cellOf env x = pure c := by unfold cellOf; rw [hc]
      simp only [hk, if_true, e, hc, Option.getD_some]
      exact clos_loop r _ fun y hy => h y (.tail _ hy)
    · simp only [hk]
      exact clos_loop r _ fun y hy => h y (.tail _ hy)

theorem closureFor_eq {env : Env} {scope : Scope} (h : ∀ x, (x, NameKind.free) ∈ scope.names → (env.cells.lookup x).isSome = true) : closureFor scope env = pure (clos env.cells scope.names []) := by
  unfold closureFor
  simp only []
  rw [clos_loop scope.names [] h]
  rfl

theorem clos_mem {cells : List (Str × Addr)} : ∀ (names : List (Str × NameKind)) (acc : List (Str × Addr)) (p : Str × Addr), p ∈ clos cells names acc → p ∈ acc ∨ ((p.1, NameKind.free) ∈ names ∧ p.2 = (cells.lookup p.1).getD 0)
  | [], acc, p, h => .inl h
  | (x, k) :: r, acc, p, h => by
    unfold clos at h
    by_cases hk : (k == NameKind.free) = true
    · rw [if_pos hk] at h
      have hk' : k = .free := by simpa using hk
      subst hk'
      rcases clos_mem r _ p h with h | ⟨h1, h2⟩
      · rcases List.mem_cons.mp h with h | h
        · subst h; exact .inr ⟨.head _, rfl⟩
        · exact .inl h
      · exact .inr ⟨.tail _ h1, h2⟩
    · rw [if_neg hk] at h
      rcases clos_mem r _ p h with h | ⟨h1, h2⟩
      · exact .inl h
      · exact .inr ⟨.tail _ h1, h2⟩

theorem clos_has {cells : List (Str × Addr)} : ∀ (names : List (Str × NameKind)) (acc : List (Str × Addr)) (x : Str), ((x, NameKind.free) ∈ names ∨ (acc.lookup x).isSome = true) → ((clos cells names acc).lookup x).isSome = true
  | [], acc, x, h => by
    rcases h with h | h
    · cases h
    · exact h
  | (y, k) :: r, acc, x, h => by
    unfold clos
    by_cases hk : (k == NameKind.free) = true
    · rw [if_pos hk]
      refine clos_has r _ x ?_
      rcases h with h | h
      · rcases List.mem_cons.mp h with h | h
        · cases h; exact .inr (by simp)
        · exact .inl h
      · refine .inr ?_
        rw [List.lookup_cons]
        cases x == y <;> simp [h]
    · rw [if_neg hk]
      refine clos_has r _ x ?_
      rcases h with h | h
      · rcases List.mem_cons.mp h with h | h
        · cases h; exact absurd rfl hk
        · exact .inl h
      · exact .inr h

theorem clos_pair {cells : List (Str × Addr)} : ∀ (names : List (Str × NameKind)) (acc : List (Str × Addr)), (acc.map (·.1) ++ names.map (·.1)).Nodup → ((clos cells names acc).map (·.1)).Nodup
  | [], acc, h => by simpa [clos] using h
  | (y, k) :: r, acc, h => by
    unfold clos
    by_cases hk : (k == NameKind.free) = true
    · rw [if_pos hk]
      refine clos_pair r _ ?_
      simp only [List.map_cons, List.cons_append]
      have h' : (acc.map (·.1) ++ y :: r.map (·.1)).Nodup := by simpa using h
      exact (List.perm_middle.nodup_iff).mp h'
    · rw [if_neg hk]
      refine clos_pair r acc ?_
      have h' : (acc.map (·.1) ++ y :: r.map (·.1)).Nodup := by simpa using h
      have := (List.perm_middle.nodup_iff).mp h'
      exact (List.nodup_cons.mp this).2

/-- what a comprehension's scope must be like -/
structure CompOk (sc scope : Scope) (names : List Str) (is : List Nat) : Prop where
  kind : scope.kind = .function
  nodup : (scope.names.map (·.1)).Nodup
  nocell : ∀ y ∈ scope.names, y.2 ≠ .cell
  free : ∀ x, (x, NameKind.free) ∈ scope.names → sc.names.lookup x = some .cell ∨ sc.names.lookup x = some .free
  loc : ∀ x, (x, NameKind.local) ∈ scope.names → x ∈ names → ∃ i ∈ is, names[i]? = some x

theorem lookup_of_mem {α : Type} : ∀ {l : List (Str × α)} {n : Str} {c : α}, (l.map (·.1)).Nodup → (n, c) ∈ l → l.lookup n = some c
  | (k, v) :: r, n, c, nd, h => by
    simp only [List.map_cons, List.nodup_cons] at nd
    rw [List.lookup_cons]
    rcases List.mem_cons.mp h with h | h
    · cases h; simp
    · have : n ≠ k := fun e => nd.1 (e ▸ List.mem_map.mpr ⟨(n, c), h, rfl⟩)
      rw [beq_eq_false_iff_ne.mpr this]
      exact lookup_of_mem nd.2 h

theorem rl_lookup {sc scope : Scope} (nd : (scope.names.map (·.1)).Nodup) (x : Str) : (rl sc scope).names.lookup x = (scope.names.lookup x).map fun k => if (k == .free && sc.kind == .function && sc.names.lookup x == some .cell) then .cell else k := by
  show (scope.names.map fun (n, k) => if (k == NameKind.free && sc.kind == .function && sc.names.lookup n == some .cell) then (n, NameKind.cell) else (n, k)).lookup x = _
  clear nd
  induction scope.names with
  | nil => rfl
  | cons p r ih =>
    obtain ⟨y, k⟩ := p
    rw [List.map_cons, List.lookup_cons (as := r)]
    by_cases hc : (k == NameKind.free && sc.kind == .function && sc.names.lookup y == some .cell) = true
    · simp only [hc, if_true]
      rw [List.lookup_cons]
      cases hxy : x == y with
      | false => exact ih
      | true =>
        have : x = y := by simpa using hxy
        subst this
        simp only [Option.map_some, hc, if_true]
    · have hc' : (k == NameKind.free && sc.kind == .function && sc.names.lookup y == some .cell) = false := by simpa using hc
      simp only [hc', Bool.false_eq_true, if_false]
      rw [List.lookup_cons]
      cases hxy : x == y with
      | false => exact ih
      | true =>
        have : x = y := by simpa using hxy
        subst this
        simp only [Option.map_some, hc', Bool.false_eq_true, if_false]
end
end Mine
set_option maxRecDepth 10000
namespace Mine
open PySem PyProof.Rows
section
variable {X : Cx} {n : Nat} {sc : Scope} {names : List Str}

def CondOk (X : Cx) (n : Nat) (sc' : Scope) (names : List Str) (ifs : List Expr) (cond : Option E) : Prop :=
  (ifs = [] ∧ cond = none) ∨ ∃ c ec, ifs = [c] ∧ cond = some ec ∧ ST X n sc' names c ec

theorem env_comp {env : Env} {scope : Scope} {cl : List (Str × Addr)} {C : Addr} (he : env.scope = sc) (eo : EnvOk env) (hk : scope.kind = .function) : EnvOk (compEnvC scope cl C env) ∧ (compEnvC scope cl C env).scope = rl sc scope :=
  ⟨⟨hk, eo.glob, eo.blt⟩, rl_eq he scope⟩

theorem comp_core {elt target iter : Expr} {ifs : List Expr} {scope : Scope} {pos p : Pos} {e : E} {is : List Nat} {it : It} {cond : Option E} (hco : CompOk sc scope names is) (ht : TgtOkL names (rl sc scope) target is)
    (hit : SI X n sc names target iter it is.length) (helt : SE X n (rl sc scope) names elt e) (hcond : CondOk X n (rl sc scope) names ifs cond) (hs : notSet iter = true) {env : Env} {A : Around} {s : Shared} {Φ : Fz} {ρ : List MV} {σ : Sg}
    {Q : List D → Sg → Prop} {use : Option (Value → Sem Unit)} {K : Value → Shared → Prop} (he : env.scope = sc) (eo : EnvOk env) (hr : Room n A) (ok : Ok X.g σ Φ s.heap) (F : Frame X.g env names ρ σ Φ s.heap) (h : mL X n (.comp e is it cond) ρ σ Q)
    (fin : ∀ Dd C vs ds σ' Φ' s', Step X.g s s' Φ Φ' σ σ' → s.heap.get? Dd = none → s.heap.get? C = none → Dd ≠ C → s'.heap.PlainList Dd vs → σ' Dd = none → Φ' Dd = none → σ' C = none → Φ' C = none → (∃ m, s'.heap.Ns C m) → RdAll Φ' vs.toList ds → Q ds σ' →
      compPost (model X.prog X.w) A No use K (.ref Dd) C (.ok .next) s') :
    wpAny (model X.prog X.w) A (comprehension (.ListComp elt [⟨target, iter, ifs, 0⟩] scope pos) scope env p (newList []) false (eval iter env) use) K No s := by
  obtain ⟨m₀, cm, μ, F⟩ := F
  have hcells : ∀ x, (x, NameKind.free) ∈ scope.names → (env.cells.lookup x).isSome = true := fun x hx => by
    refine F.hasCell x ?_
    rw [Env.kindOf_sc he]
    exact hco.free x hx
  have hcl := closureFor_eq (env := env) hcells
  generalize hclv : clos env.cells scope.names [] = cl at hcl
  have clmem : ∀ x c, (x, c) ∈ cl → (x, NameKind.free) ∈ scope.names ∧ env.cells.lookup x = some c := fun x c hx => by
    rw [← hclv] at hx
    rcases clos_mem scope.names [] (x, c) hx with h | ⟨h1, h2⟩
    · cases h
    · obtain ⟨c', hc'⟩ := Option.isSome_iff_exists.mp (hcells x h1)
      simp only [hc', Option.getD_some] at h2
      exact ⟨h1, by rw [hc', h2]⟩
  refine wpAny_comprehension_free rfl (folded_id hs) hcl hco.kind (fun x hx hl => lookup_of_mem hco.nodup (by rw [← hl]; exact hx)) ?_
  refine wpAny_mono (hit env A s Φ ρ σ _ he eo hr ok ⟨m₀, cm, μ, F⟩ h) (fun xv s₁ h₁ => wpAny_mono h₁ (fun itv s₂ h₂ => ?_) fun _ _ h => h.elim) fun _ _ h => h.elim
  obtain ⟨rows, σ₁, Φ₁, st, ⟨hrows, q⟩, hrl, Ia, fp, wr, St, rfl, fd⟩ := h₂
  refine wpAny_newObj_type (wpAny_newFunctionEnv hco.nocell (by intro y hy; simp at hy) (fun h₁ hns₁ hsb₁ => ?_) hco.kind)
  dsimp only at hns₁ hsb₁ ⊢
  generalize hH2 : s₂.heap.push { cls := .type "list", dict := none, data := .seq ([] : List Value).toArray } = H2 at hns₁ hsb₁ ⊢
  have hCs : H2.objs.size = s₂.heap.objs.size + 1 := by rw [← hH2, Heap.size_push]
  have hDC : s₂.heap.objs.size ≠ H2.objs.size := by rw [hCs]; exact Nat.ne_of_lt (Nat.lt_succ_self _)
  -- the accumulated list, the comprehension's frame
  have old : ∀ b o, s₂.heap.get? b = some o → h₁.get? b = some o := fun b o e => by
    have hb := Heap.lt_size e
    exact hsb₁.extBut b o (by rw [hCs]; exact Nat.ne_of_lt (Nat.lt_succ_of_lt hb)) (Heap.get?_push_of_some _ (hH2 ▸ Heap.get?_push_of_some _ e))
  have hacc : h₁.PlainList s₂.heap.objs.size #[] := ⟨_, hsb₁.extBut _ _ hDC (Heap.get?_push_of_some _ (hH2 ▸ Heap.get?_push_size _ rfl))⟩
  have hDn : s₂.heap.get? s₂.heap.objs.size = none := size_none _
  have hCn : s₂.heap.get? H2.objs.size = none := by
    cases e : s₂.heap.get? H2.objs.size with
    | none => rfl
    | some o => have := Heap.lt_size e; rw [hCs] at this; exact absurd this (Nat.not_lt.mpr (Nat.le_succ _))
  have hDs : s.heap.get? s₂.heap.objs.size = none := st.live _ hDn
  have hCs' : s.heap.get? H2.objs.size = none := st.live _ hCn
  have stk : Step X.g s₂ { s₂ with heap := h₁, toks := s₂.toks + 0 } Φ₁ Φ₁ σ₁ σ₁ := Step.keeps st.ok old
  have st₁ := st.trans stk
  have F₂ := F.step st₁
  have own_old : ∀ a, Own env μ a → ∃ o, s.heap.get? a = some o := fun a ha => by
    rcases ha with ha | ⟨n, ha⟩ | ⟨j, ha⟩
    · subst ha; obtain ⟨o, _, _, ho, _⟩ := F.ns; exact ⟨o, ho⟩
    · exact F.cellsIn n a ha
    · exact F.live j a ha
  obtain ⟨eo', he'⟩ := env_comp (cl := cl) (C := H2.objs.size) he eo hco.kind
  generalize henv : compEnvC scope cl H2.objs.size env = env' at eo' he'
  have hloc' : env'.locals = H2.objs.size := by rw [← henv]; rfl
  have hcl' : env'.cells = cl := by rw [← henv]; rfl
  have kind' : ∀ x, env'.kindOf x = (scope.names.lookup x).map fun k => if (k == .free && sc.kind == .function && sc.names.lookup x == some .cell) then .cell else k := fun x => by
    rw [Env.kindOf_sc he', rl_lookup hco.nodup]
  -- the comprehension's own names and what it sees of the outer ones
  let μ' : Nat → Option Addr := fun j => if j ∈ is then none else μ j
  have own' : ∀ a, Own env' μ' a → a = H2.objs.size ∨ Own env μ a := fun a ha => by
    rcases ha with ha | ⟨x, ha⟩ | ⟨j, ha⟩
    · exact .inl (ha.trans hloc')
    · rw [hcl'] at ha
      exact .inr (.inr (.inl ⟨x, mem_of_lookup (clmem x a ha).2⟩))
    · by_cases q : j ∈ is
      · simp only [μ', if_pos q] at ha; cases ha
      · simp only [μ', if_neg q] at ha
        exact .inr (.inr (.inr ⟨j, ha⟩))
  have hgC : X.g.get? H2.objs.size = none := by
    cases e : X.g.get? H2.objs.size with
    | none => rfl
    | some o => have := (ok.base _ o e).1; rw [hCs'] at this; cases this
  have F' : FrameX X.g env' names (unbAll ρ is) σ₁ Φ₁ h₁ (fun x => ([] : List (Str × Value)).reverse.lookup x) cm μ' := {
    nd := F.nd
    len := by rw [unbAll_len]; exact F.len
    ns := by rw [hloc']; exact hns₁
    cell := fun x c hc => by
      rw [hcl'] at hc
      exact F₂.cell x c (clmem x c (mem_of_lookup hc)).2
    cellsIn := fun x c hc => by
      rw [hcl'] at hc
      exact F₂.cellsIn x c (mem_of_lookup (clmem x c hc).2)
    hasCell := fun x hx => by
      rw [hcl', ← hclv]
      refine clos_has _ _ x (.inl ?_)
      rw [kind'] at hx
      cases e : scope.names.lookup x with
      | none => rw [e] at hx; rcases hx with hx | hx <;> cases hx
      | some k =>
        rw [e] at hx
        cases k with
        | free => exact mem_of_lookup e
        | cell => exact absurd rfl (hco.nocell _ (mem_of_lookup e))
        | «local» => rcases hx with hx | hx <;> simp at hx
        | globalImplicit => rcases hx with hx | hx <;> simp at hx
        | globalExplicit => rcases hx with hx | hx <;> simp at hx
    apart := by
      rw [hcl']
      have nd : (cl.map (·.1)).Nodup := by rw [← hclv]; exact clos_pair scope.names [] (by simpa using hco.nodup)
      rw [List.nodup_iff_pairwise_ne, List.pairwise_map] at nd
      refine List.Pairwise.imp_of_mem ?_ nd
      intro a b ha hb hne hab
      exact hne (name_of_addr F.apart (mem_of_lookup (clmem a.1 a.2 ha).2) (by rw [hab]; exact mem_of_lookup (clmem b.1 b.2 hb).2))
    offc := fun x c hc => by
      rw [hcl'] at hc
      rw [hloc']
      intro q
      obtain ⟨o, ho⟩ := F.cellsIn x c (mem_of_lookup (clmem x c hc).2)
      rw [q, hCs'] at ho; cases ho
    priv := fun a ha => by
      rcases own' a ha with q | q
      · subst q; exact ⟨st.ok.freshS hCn, st.ok.freshF hCn, hgC⟩
      · exact F₂.priv a q
    vars := fun j y hj hacc => by
      by_cases q : j ∈ is
      · rw [unbAll_in is ρ j q]
        show μ' j = none
        simp only [μ', if_pos q]
      · have e1 : (unbAll ρ is).getD j .unb = ρ.getD j .unb := by simp only [List.getD, unbAll_out is ρ j q]
        rw [e1]
        have e2 : μ' j = μ j := by simp only [μ', if_neg q]
        rw [e2]
        -- the name is free in the comprehension
        have hfree : scope.names.lookup y = some .free := by
          have hacc' := hacc
          unfold acc at hacc'
          rw [kind'] at hacc'
          cases e : scope.names.lookup y with
          | none => rw [e] at hacc'; rcases hacc' with h | h | h <;> cases h
          | some k =>
            rw [e] at hacc'
            cases k with
            | free => rfl
            | cell => exact absurd rfl (hco.nocell _ (mem_of_lookup e))
            | «local» =>
              obtain ⟨i, hi, hi'⟩ := hco.loc y (mem_of_lookup e) (List.mem_of_getElem? hj)
              exact absurd (names_inj F.nd hj hi' ▸ hi) q
            | globalImplicit => rcases hacc' with h | h | h <;> simp at h
            | globalExplicit => rcases hacc' with h | h | h <;> simp at h
        have hout := hco.free y (mem_of_lookup hfree)
        have hao : acc env y := by
          unfold acc
          rw [Env.kindOf_sc he]
          exact .inr hout
        have v := F₂.vars j y hj hao
        have l1 : look env m₀ cm y = cm y := by
          unfold look
          rw [Env.kindOf_sc he]
          rcases hout with h | h <;> rw [h]
        have l2 : look env' (fun x => ([] : List (Str × Value)).reverse.lookup x) cm y = cm y := by
          unfold look
          have : env'.kindOf y = some .cell ∨ env'.kindOf y = some .free := by
            rw [kind', hfree]
            simp only [Option.map_some]
            split
            · exact .inl rfl
            · exact .inr rfl
          rcases this with h | h <;> rw [h]
        rw [l2, ← l1]
        exact v
    inj := fun j k a ej ek => by
      by_cases qj : j ∈ is
      · simp only [μ', if_pos qj] at ej; cases ej
      · by_cases qk : k ∈ is
        · simp only [μ', if_pos qk] at ek; cases ek
        · simp only [μ', if_neg qj] at ej
          simp only [μ', if_neg qk] at ek
          exact F.inj j k a ej ek
    offm := fun j a e => by
      by_cases q : j ∈ is
      · simp only [μ', if_pos q] at e; cases e
      · simp only [μ', if_neg q] at e
        refine ⟨fun z => ?_, fun x z => ?_⟩
        · rw [hloc'] at z
          obtain ⟨o, ho⟩ := F.live j a e
          rw [z, hCs'] at ho; cases ho
        · rw [hcl'] at z
          exact (F.offm j a e).2 x (mem_of_lookup (clmem x a z).2)
    live := fun j a e => by
      by_cases q : j ∈ is
      · simp only [μ', if_pos q] at e; cases e
      · simp only [μ', if_neg q] at e
        exact F₂.live j a e }
  have ownS : ∀ a, Own env' μ' a → a ≠ H2.objs.size → ∃ o, s.heap.get? a = some o := fun a ha hne => by
    rcases own' a ha with q | q
    · exact absurd q hne
    · exact own_old a q
  have hμ' : ∀ i ∈ is, μ' i = none := fun i hi => by simp only [μ', if_pos hi]
  have hCl : s.heap.get? env'.locals = none := by rw [hloc']; exact hCs'
  have hDown : ¬ Own env' μ' s₂.heap.objs.size := fun ho => by
    obtain ⟨o, e⟩ := ownS _ ho hDC
    rw [hDs] at e; cases e
  -- the iterator's objects
  have fpC : ∀ b ∈ fp, b ≠ H2.objs.size ∧ b ≠ s₂.heap.objs.size := fun b hb => by
    obtain ⟨o, ho⟩ := fd.inn b hb
    exact ⟨fun q => (by rw [q, hCn] at ho; cases ho), fun q => (by rw [q, hDn] at ho; cases ho)⟩
  have wrS : ∀ b ∈ wr, s.heap.get? b = none := fun b hb => (fd.wnew b hb).1
  have wrOwn : ∀ b ∈ wr, ¬ Own env' μ' b := fun b hb ho => by
    obtain ⟨o, e⟩ := ownS b ho (fpC b (fd.sub b hb)).1
    rw [wrS b hb] at e; cases e
  let Iv : Nat → Shared → Prop := fun k s' => ∃ j σ' Φ' ys ds, CF X env' names s Φ σ cm μ' (unbAll ρ is) s' Φ' σ' ∧ Fz.le Φ₁ Φ' ∧ s'.heap.PlainList s₂.heap.objs.size ys ∧ RdAll Φ' ys.toList ds ∧ σ' s₂.heap.objs.size = none ∧ Φ' s₂.heap.objs.size = none ∧
    (∀ b ∈ fp, (∃ o, Φ₁ b = some o) ∨ (∃ o, s'.heap.get? b = some o) ∧ σ' b = none ∧ Φ' b = none) ∧ (∀ b ∈ wr, σ' b = none ∧ Φ' b = none) ∧ St j s'.heap ∧ ds.length ≤ j ∧
    compT (mCond X n cond) (e X n) ρ is (rows.drop j) σ' (fun rest σ => Q (ds ++ rest) σ) ∧ j ≤ rows.length ∧ k = rows.length + 1 - j
  have start : Iv (rows.length + 1) { s₂ with heap := h₁, toks := s₂.toks + 0 } := by
    refine ⟨0, σ₁, Φ₁, #[], [], ⟨st₁, _, F'⟩, Fz.le.refl _, hacc, .nil, st.ok.freshS hDn, st.ok.freshF hDn, fun b hb => ?_, fun b hb => (fd.wnew b hb).2, fd.frame _ _ _ fd.st0 fun b _ o e => old b o e, Nat.le_refl _, by simpa using q, Nat.zero_le _, rfl⟩
    cases e : Φ₁ b with
    | some o => exact .inl ⟨o, rfl⟩
    | none =>
      obtain ⟨o, ho⟩ := fd.inn b hb
      rcases fd.new b hb with h | h
      · exact absurd e h
      · exact .inr ⟨⟨o, old b o ho⟩, h.2.1, rfl⟩
  have loop : ∀ s₄ : Shared, s₄ = { s₂ with heap := h₁, toks := s₂.toks + 0 } →
      codeAny (model X.prog X.w) A (.compLoop (.ListComp elt [⟨target, iter, ifs, 0⟩] scope pos) 0 (.ref Ia) (.ref s₂.heap.objs.size) env') (compPost (model X.prog X.w) A No use K (.ref s₂.heap.objs.size) H2.objs.size) s₄ := by
    rintro s₄ rfl
    refine compLoop_any Iv ?_ (rows.length + 1) start
    rintro k s' ⟨j, σ', Φ', ys, ds, c, le', hpl, hrd, hD1, hD2, hfp, hwr, hst, hlen, q', hj, rfl⟩
    by_cases hlt : j < rows.length
    · have hrow : rows[j]? = some rows[j] := List.getElem?_eq_getElem hlt
      have hrlen := hrl _ (List.getElem_mem hlt)
      have hdrop : rows.drop j = rows[j] :: rows.drop (j + 1) := List.drop_eq_getElem_cons hlt
      rw [hdrop] at q'
      simp only [compT] at q'
      refine wpAny_mono (fd.next j s' (fun v s₂' => wpAny (model X.prog X.w) A (assign target env' v) (fun _ s₃ =>
          wpAny (model X.prog X.w) A (forIn ifs true fun c r => if r = true then do let ok ← isTrue c env' (eval c env'); pure (ForInStep.yield ok) else pure (ForInStep.yield r)) (fun ok s₃ =>
            if ok = true then wpAny (model X.prog X.w) A (eval elt env') (fun x s₄ => wpAny (model X.prog X.w) A (call (.builtin "list.append") [.ref s₂.heap.objs.size, x]) (fun _ s₅ => ∃ m, m < rows.length + 1 - j ∧ Iv m s₅) No s₄) No s₃
            else ∃ m, m < rows.length + 1 - j ∧ Iv m s₃) No s₃) No s₂') rows[j] hrow hst fun v ha tka hG hsta hka => ?_) (by rintro r s₁ ⟨v, rfl, hv⟩; exact hv) fun _ _ h => h.elim
      -- the iterator has moved
      have ca : CF X env' names s Φ σ cm μ' (unbAll ρ is) { s' with heap := ha, toks := tka } Φ' σ' := by
        obtain ⟨m, Fm⟩ := c.fr
        exact ⟨c.step.write ok (W := wr) (fun b hb => ⟨wrS b hb, hwr b hb⟩) hka, m, Fm.kept fun a o hao e => hka a o (fun q => wrOwn a q hao) e⟩
      have hDwr : s₂.heap.objs.size ∉ wr := fun q => (fpC _ (fd.sub _ q)).2 rfl
      have hpla : ha.PlainList s₂.heap.objs.size ys := hpl.at fun o e => hka _ o hDwr e
      refine ca.assign_got hr eo' he' ok hCl ht hμ' hrlen (hG.mono le') fun hb tkb cb kb => ?_
      rw [setAll_unb hrlen] at cb
      rw [hloc'] at kb
      have stb : St (j + 1) hb := fd.frame _ _ _ hsta fun b hbm o e => kb b o (fpC b hbm).1 e
      have hplb : hb.PlainList s₂.heap.objs.size ys := hpla.at fun o e => kb _ o hDC e
      have alive_a : ∀ b ∈ fp, (∃ o, s'.heap.get? b = some o) → ∃ o, hb.get? b = some o := fun b hbm hex => by
        by_cases hw : b ∈ wr
        · obtain ⟨o, ho⟩ := fd.live _ _ hsta b hw
          exact ⟨o, kb b o (fpC b hbm).1 ho⟩
        · obtain ⟨o, ho⟩ := hex
          exact ⟨o, kb b o (fpC b hbm).1 (hka b o hw ho)⟩
      -- after any evaluation the iterator stands as it stood
      have fwd : ∀ (s₃ : Shared) Φ₃ σ₃, Step X.g { s' with heap := hb, toks := tkb } s₃ Φ' Φ₃ σ' σ₃ → St (j + 1) s₃.heap ∧ s₃.heap.PlainList s₂.heap.objs.size ys ∧ σ₃ s₂.heap.objs.size = none ∧ Φ₃ s₂.heap.objs.size = none ∧
          (∀ b ∈ fp, (∃ o, Φ₁ b = some o) ∨ (∃ o, s₃.heap.get? b = some o) ∧ σ₃ b = none ∧ Φ₃ b = none) ∧ (∀ b ∈ wr, σ₃ b = none ∧ Φ₃ b = none) := by
        intro s₃ Φ₃ σ₃ x
        have hDb : ∃ o, hb.get? s₂.heap.objs.size = some o := let ⟨k, e⟩ := hplb; ⟨_, e⟩
        obtain ⟨oD, hoD⟩ := hDb
        refine ⟨fd.frame _ _ _ stb fun b hbm o ho => ?_, hplb.at fun o ho => x.keep _ o ho hD1, x.outS (o := oD) hoD hD1, x.outF (o := oD) hoD hD1 hD2, fun b hbm => ?_, fun b hbm => ?_⟩
        · rcases hfp b hbm with ⟨o', ho'⟩ | ⟨_, h1, _⟩
          · exact x.keep b o ho (cb.step.ok.frz b o' (le' b o' ho')).2
          · exact x.keep b o ho h1
        · rcases hfp b hbm with hf | ⟨hex, h1, h2⟩
          · exact .inl hf
          · obtain ⟨o, ho⟩ := alive_a b hbm hex
            exact .inr ⟨⟨o, x.keep b o ho h1⟩, x.outS (o := o) ho h1, x.outF (o := o) ho h1 h2⟩
        · obtain ⟨o, ho⟩ := fd.live _ _ stb b hbm
          exact ⟨x.outS (o := o) ho (hwr b hbm).1, x.outF (o := o) ho (hwr b hbm).1 (hwr b hbm).2⟩
      have frb : Frame X.g env' names (setAll ρ is rows[j]) σ' Φ' hb := let ⟨m, Fm⟩ := cb.fr; ⟨m, cm, μ', Fm⟩
      -- back to the state between the turns
      have back : ∀ (s₃ : Shared) Φ₃ σ₃, CF X env' names s Φ σ cm μ' (setAll ρ is rows[j]) s₃ Φ₃ σ₃ → CF X env' names s Φ σ cm μ' (unbAll ρ is) s₃ Φ₃ σ₃ := by
        rintro s₃ Φ₃ σ₃ ⟨x, m, Fm⟩
        refine ⟨x, m, Fm.weaken (by rw [unbAll_len, setAll_len]) fun i => ?_⟩
        by_cases hi : i ∈ is
        · exact .inr ⟨unbAll_in is ρ i hi, hμ' i hi⟩
        · exact .inl (by simp only [List.getD, unbAll_out is ρ i hi, setAll_out is rows[j] ρ i hi])
      have stepF : ∀ (s₃ : Shared) Φ₃ σ₃, Step X.g { s' with heap := hb, toks := tkb } s₃ Φ' Φ₃ σ' σ₃ → CF X env' names s Φ σ cm μ' (setAll ρ is rows[j]) s₃ Φ₃ σ₃ := fun s₃ Φ₃ σ₃ x =>
        ⟨cb.step.trans x, let ⟨m, Fm⟩ := cb.fr; ⟨m, Fm.step x⟩⟩
      -- the element and its place in the list
      have tail : ∀ (s₃ : Shared) Φ₃ σ₃, Step X.g { s' with heap := hb, toks := tkb } s₃ Φ' Φ₃ σ' σ₃ →
          (mEval X n e (setAll ρ is rows[j]) σ₃ fun d σ => compT (mCond X n cond) (e X n) ρ is (rows.drop (j + 1)) σ fun rest σ => Q (ds ++ d :: rest) σ) →
          wpAny (model X.prog X.w) A (eval elt env') (fun x s₄ => wpAny (model X.prog X.w) A (call (.builtin "list.append") [.ref s₂.heap.objs.size, x]) (fun _ s₅ => ∃ m, m < rows.length + 1 - j ∧ Iv m s₅) No s₄) No s₃ := by
        intro s₃ Φ₃ σ₃ x qe
        refine wpAny_mono (helt env' A s₃ Φ₃ _ σ₃ _ he' eo' hr x.ok (Frame.step frb x) qe) ?_ fun _ _ h => h.elim
        rintro y s₄ ⟨d, σ₄, Φ₄, x₄, ry, q₄⟩
        have xx := x.trans x₄
        obtain ⟨stc, hplc, h1, h2, h3, h4⟩ := fwd s₄ Φ₄ σ₄ xx
        have hys := hrd.length
        simp only [Array.length_toList] at hys
        refine wpAny_list_append_plain hplc (fun h₅ hl₅ hs₅ => ?_) (le_size hys hlen hlt hrows)
        have c₄ := back s₄ Φ₄ σ₄ (stepF s₄ Φ₄ σ₄ xx)
        refine ⟨rows.length + 1 - (j + 1), meas_lt hlt, j + 1, σ₄, Φ₄, ys.push y, ds ++ [d], ⟨c₄.step.write (tk := s₄.toks) ok (W := [s₂.heap.objs.size]) (fun b hbm => ?_) fun b o hbm ho => (hs₅.2 b (by simpa using hbm)).trans ho, ?_⟩, le'.trans (x.mono.trans x₄.mono), hl₅,
          by simpa using (hrd.mono (x.mono.trans x₄.mono)).append (.one ry), h1, h2, fun b hbm => ?_, h4, fd.frame _ _ _ stc fun b hbm o ho => (hs₅.2 b (fpC b hbm).2).trans ho, by rw [List.length_append]; exact Nat.succ_le_succ hlen, by simpa using q₄, hlt, rfl⟩
        · have : b = s₂.heap.objs.size := by simpa using hbm
          subst this
          exact ⟨hDs, h1, h2⟩
        · obtain ⟨m, Fm⟩ := c₄.fr
          exact ⟨m, Fm.kept fun a o hao ho => (hs₅.2 a fun q => hDown (q ▸ hao)).trans ho⟩
        · rcases h3 b hbm with hf | ⟨⟨o, ho⟩, h5, h6⟩
          · exact .inl hf
          · exact .inr ⟨⟨o, (hs₅.2 b (fpC b hbm).2).trans ho⟩, h5, h6⟩
      have skip : ∀ (s₃ : Shared) Φ₃ σ₃, Step X.g { s' with heap := hb, toks := tkb } s₃ Φ' Φ₃ σ' σ₃ →
          (compT (mCond X n cond) (e X n) ρ is (rows.drop (j + 1)) σ₃ fun rest σ => Q (ds ++ rest) σ) → ∃ m, m < rows.length + 1 - j ∧ Iv m s₃ := by
        intro s₃ Φ₃ σ₃ x qe
        obtain ⟨stc, hplc, h1, h2, h3, h4⟩ := fwd s₃ Φ₃ σ₃ x
        exact ⟨rows.length + 1 - (j + 1), meas_lt hlt, j + 1, σ₃, Φ₃, ys, ds, back s₃ Φ₃ σ₃ (stepF s₃ Φ₃ σ₃ x), le'.trans x.mono, hplc, hrd.mono x.mono, h1, h2, h3, h4, stc, Nat.le_succ_of_le hlen, qe, hlt, rfl⟩
      rcases hcond with ⟨rfl, rfl⟩ | ⟨c₁, ec, rfl, rfl, hst₁⟩
      · refine wpAny_tests_nil ?_
        simp only [mCond, condT, D.bool.injEq, exists_eq_left', if_true] at q' ⊢
        exact tail _ Φ' σ' (Step.refl cb.step.ok) q'
      · refine wpAny_tests_one ?_
        simp only [mCond] at q'
        refine wpAny_mono (hst₁ env' A _ Φ' _ σ' _ _ he' eo' hr cb.step.ok frb (fun _ _ h => h) q') ?_ fun _ _ h => h.elim
        rintro b s₃ ⟨σ₃, Φ₃, x, qb⟩
        cases b with
        | true => exact tail s₃ Φ₃ σ₃ x qb
        | false => exact skip s₃ Φ₃ σ₃ x qb
    · have hje : j = rows.length := eq_of_ge hlt hj
      subst hje
      simp only [List.drop_length, compT, List.append_nil] at q'
      refine wpAny_mono (fd.done s' (fun s₁ => compPost (model X.prog X.w) A No use K (.ref s₂.heap.objs.size) H2.objs.size (.ok .next) s₁) hst fun ha tka hka => ?_) (by rintro r s₁ ⟨rfl, h⟩; exact h) fun _ _ h => h.elim
      have hDwr : s₂.heap.objs.size ∉ wr := fun q => (fpC _ (fd.sub _ q)).2 rfl
      have sw : Step X.g s { s' with heap := ha, toks := tka } Φ Φ' σ σ' := c.step.write ok (W := wr) (fun b hb => ⟨wrS b hb, hwr b hb⟩) hka
      obtain ⟨m, Fm⟩ := c.fr
      have Fm' := Fm.kept (h' := ha) fun a o hao e => hka a o (fun q => wrOwn a q hao) e
      have pC := Fm.priv env'.locals (.inl rfl)
      rw [hloc'] at pC
      exact fin _ _ ys ds σ' Φ' _ sw hDs hCs' hDC (hpl.at fun o e => hka _ o hDwr e) hD1 hD2 pC.1 pC.2.1 ⟨m, by have := Fm'.ns; rw [hloc'] at this; exact this⟩ hrd q'
  have hst0 : St 0 h₁ := fd.frame _ _ _ fd.st0 fun b _ o e => old b o e
  rw [← henv] at loop
  exact codeAny_compStart_list (loop _ rfl) (wpAny_mono (fd.self { s₂ with heap := h₁, toks := s₂.toks + 0 } _ hst0 (loop _ rfl)) (fun _ _ h => h) fun _ _ h => h.elim)
end
end Mine
set_option maxRecDepth 10000
namespace Mine
open PySem PyProof.Rows
section
variable {X : Cx} {n : Nat} {sc : Scope} {names : List Str}

theorem SL_comp {elt target iter : Expr} {ifs : List Expr} {scope : Scope} {pos : Pos} {e : E} {is : List Nat} {it : It} {cond : Option E} (hco : CompOk sc scope names is) (ht : TgtOkL names (rl sc scope) target is)
    (hit : SI X n sc names target iter it is.length) (helt : SE X n (rl sc scope) names elt e) (hcond : CondOk X n (rl sc scope) names ifs cond) (hs : notSet iter = true) :
    SL X n sc names (.ListComp elt [⟨target, iter, ifs, 0⟩] scope pos) (.comp e is it cond) := by
  intro env A s Φ ρ σ Q he eo hr ok F h
  rw [eval_ListComp]
  refine comp_core (use := none) hco ht hit helt hcond hs he eo hr ok F h ?_
  intro Dd C vs ds σ' Φ' s' st hD hC hDC hl h1 h2 h3 h4 ⟨m, hns⟩ hrd q
  refine ⟨m, hns, fun h' hsb => ⟨Dd, vs, ds, σ', Φ', rfl, ?_, hD, hl.at fun o e => (hsb.2 Dd hDC).trans e, h1, h2, hrd, q⟩⟩
  refine st.write (tk := s'.toks) ok (W := [C]) (fun b hb => ?_) fun b o hb ho => (hsb.2 b (by simpa using hb)).trans ho
  have : b = C := by simpa using hb
  subst this
  exact ⟨hC, h3, h4⟩

/-- how a comprehension is stored to a name -/
def swapsB (sc : Scope) (scope : Scope) (y : Str) (py pos : Pos) : Bool :=
  sc.names.lookup y == some .local && py.line == pos.line && !(scope.names.any fun (n, k) => n == y && (k == .local || k == .cell))

theorem swaps_comp {elt : Expr} {gens : List Comprehension} {scope : Scope} {pos py : Pos} {y : Str} {l : Nat} {env : Env} (he : env.scope = sc) (eo : EnvOk env) :
    swapsWith (.ListComp elt gens scope pos) (some (.Name y py)) l env = pure (swapsB sc scope y py pos) := by
  have hb : env.blockKind = .function := by
    unfold Env.blockKind
    rw [eo.kind]; rfl
  show (pure (env.blockKind == .function && env.kindOf y == some .local && py.line == pos.line && !(scope.names.any fun (n, k) => n == y && (k == .local || k == .cell))) : Sem Bool) = _
  rw [hb, Env.kindOf_sc he]
  rfl

theorem SS_asgMC {elt target iter : Expr} {ifs : List Expr} {scope : Scope} {pos spos py : Pos} {y : Str} {i : Nat} {e : E} {is : List Nat} {it : It} {cond : Option E} (hi : names[i]? = some y) (hk : stS sc y = true) (hco : CompOk sc scope names is) (ht : TgtOkL names (rl sc scope) target is)
    (hit : SI X n sc names target iter it is.length) (helt : SE X n (rl sc scope) names elt e) (hcond : CondOk X n (rl sc scope) names ifs cond) (hs : notSet iter = true) :
    SS X n sc names (.Assign [.Name y py] (.ListComp elt [⟨target, iter, ifs, 0⟩] scope pos) spos) (.asgM i (.comp e is it cond)) := by
  by_cases hsw : swapsB sc scope y py pos = true
  · intro env A s B Φ₀ ρ σ Φ Q he eo hr I h
    rw [exec_Assign_Name_used _ _ _ _ (by rw [swaps_comp he eo, hsw])]
    refine wpAny_bind (wpAny_standAt (wpAny_bind ?_))
    show wpAny _ A (do let _ ← comprehension (.ListComp elt [⟨target, iter, ifs, 0⟩] scope pos) scope env _ (newList []) false (eval iter env) (some (assign (.Name y py) env))) _ _ s
    refine wpAny_bind (wpAny_mono (comp_core (use := some (assign (.Name y py) env)) (K := fun _ s' => Ex X env names B Φ₀ s Φ Q .next s') hco ht hit helt hcond hs he eo hr I.ok I.frame h ?_) (fun _ s' hq => wpAny_pure (wpAny_pure hq)) fun _ _ e => e)
    intro Dd C vs ds σ' Φ' s' st hD hC hDC hl h1 h2 h3 h4 ⟨mc, hns⟩ hrd q
    obtain ⟨m, cm, μ, F, hB⟩ := I.fr
    have none_of : ∀ a, s.heap.get? a = none → B a = none ∧ X.g.get? a = none ∧ Φ₀ a = none ∧ ∀ b, Own env μ b → b ≠ a := fun a hn => by
      have hold : ∀ o, s.heap.get? a ≠ some o := fun o e => by rw [hn] at e; cases e
      refine ⟨?_, ?_, ?_, fun b hb q => ?_⟩
      · cases e : B a with
        | none => rfl
        | some o => exact absurd (I.prot a o e).1 (hold o)
      · cases e : X.g.get? a with
        | none => rfl
        | some o => exact absurd (I.ok.base a o e).1 (hold o)
      · cases e : Φ₀ a with
        | none => rfl
        | some o => exact absurd (I.ok.frz a o (I.mono0 a o e)).1 (hold o)
      · subst q
        rcases hb with hb | ⟨n, hb⟩ | ⟨j, hb⟩
        · subst hb; obtain ⟨o, _, _, ho, _⟩ := F.ns; exact hold o ho
        · obtain ⟨o, ho⟩ := F.cellsIn n _ hb; exact hold o ho
        · obtain ⟨o, ho⟩ := F.live j _ hb; exact hold o ho
    obtain ⟨c1, c2, c3, c4⟩ := none_of C hC
    obtain ⟨d1, d2, d3, d4⟩ := none_of Dd hD
    have O : Ours X B Φ₀ [C] := ⟨fun b hb => by rw [List.mem_singleton.mp hb]; exact c3, fun b hb => by rw [List.mem_singleton.mp hb]; exact c2, fun b hb => by rw [List.mem_singleton.mp hb]; exact c1⟩
    have I₁ := (I.step st).toX (fpp := [C]) (F.step st) hB fun b hb => by
      rw [List.mem_singleton.mp hb]; exact ⟨fun ho => c4 C ho rfl, h3, h4⟩
    have al : ∀ b ∈ [C], ∃ o, s'.heap.get? b = some o := fun b hb => by
      rw [List.mem_singleton.mp hb]
      obtain ⟨o, _, _, ho, _⟩ := hns
      exact ⟨o, ho⟩
    have hB' : ∀ a, Own env μ a → Bx B [C] s'.heap a = none := fun a ha => by
      unfold Bx
      rw [if_neg (by simpa using c4 a ha)]
      exact hB a ha
    have hBD : Bx B [C] s'.heap Dd = none := by
      unfold Bx
      rw [if_neg (by simpa using hDC)]
      exact d1
    refine wpAny_assign_Name (I₁.storeM eo hi (st_of he hk) hl hrd (F.step st) hB' ⟨h1, h2, d2, fun q => d4 _ (.inl rfl) q.symm, fun n q => d4 Dd (.inr (.inl ⟨n, q⟩)) rfl, fun j _ q => d4 Dd (.inr (.inr ⟨j, q⟩)) rfl⟩ hBD fun s₂ hs₂ I₂ => ?_)
    obtain ⟨keepC, eqB⟩ := Bx_same al I₂
    have eC : s₂.heap.get? C = s'.heap.get? C := keepC C (by simp)
    refine ⟨mc, hns.at' fun o e => eC.trans e, fun h' hsb => ?_⟩
    rw [← eqB] at I₂
    have al₂ : ∀ b ∈ [C], ∃ o, s₂.heap.get? b = some o := fun b hb => by
      obtain ⟨o, ho⟩ := al b hb
      exact ⟨o, (keepC b hb).trans ho⟩
    have I₃ := (I₂.writeX O al₂ (W := [C]) (fun b hb => hb) fun b o hb ho => (hsb.2 b (by simpa using hb)).trans ho).ofX O
    obtain ⟨h₁, tk₁, rfl⟩ := st.same
    obtain ⟨h₂, tk₂, rfl⟩ := hs₂
    exact ⟨.next, _, σ', Φ', ⟨h', tk₂, rfl⟩, I₃, st.mono, trivial, q⟩
  · exact SS_asgM' hi hk (SL_comp hco ht hit helt hcond hs) fun env he eo => by
      rw [swaps_comp he eo]
      simp only [Bool.not_eq_true] at hsw
      rw [hsw]
end
end Mine
set_option maxRecDepth 10000
namespace Mine
open PySem PyProof.Rows
section
variable {X : Cx} {n : Nat} {sc : Scope} {names : List Str}

theorem none_of_ge {h : Heap} {a : Addr} (hk : h.objs.size ≤ a) : h.get? a = none := by
  cases e : h.get? a with
  | none => rfl
  | some o => exact absurd (Heap.lt_size e) (Nat.not_lt.mpr hk)

/-- a list of tuples feeds a tuple of names -/
theorem SI_seqT {x : Expr} {e : E} {elts : List Expr} {kk : Nat} {p : Pos} {k : Nat} (hk : k ≠ 1) (hx : SE X n sc names x e) : SI X n sc names (.Tuple elts kk p) x (.seq e) k := by
  intro env A s Φ ρ σ Q he eo hroom ok F h
  refine wpAny_mono (hx env A s Φ ρ σ _ he eo hroom ok F h) ?_ fun _ _ h => h.elim
  rintro v s₁ ⟨d, σ₁, Φ₁, st, r, rows, hrows, q⟩
  obtain ⟨rfl, hrl⟩ : d = .lst (rows.map D.tup) ∧ ∀ r ∈ rows, r.length = k := by
    cases hrows with
    | one _ h => exact absurd h hk
    | tup _ h => exact absurd h hk
    | many _ _ h => exact ⟨rfl, h⟩
  have hn := size_none s₁.heap
  obtain ⟨a, rfl⟩ := r.lst_ref
  obtain ⟨vs, hl, ra, hfa⟩ := r.isList st.ok
  have hlen := ra.length
  simp only [Array.length_toList, List.length_map] at hlen
  have ha : ∃ o, s₁.heap.get? a = some o := let ⟨o, ho, _⟩ := hl; ⟨o, ho⟩
  have hne : a ≠ s₁.heap.objs.size := fun q => by obtain ⟨o, ho⟩ := ha; rw [q, hn] at ho; cases ho
  -- the tuples
  have each : ∀ j, j < vs.size → ∃ T tv r, vs[j]? = some (.ref T) ∧ s₁.heap.IsTuple T tv ∧ rows[j]? = some r ∧ RdAll Φ₁ tv.toList r ∧ Φ₁ T ≠ none := fun j hj => by
    obtain ⟨d, hd, rd⟩ := ra.get' (k := j) (v := vs[j]) (by simp [hj])
    simp only [List.getElem?_map, Option.map_eq_some_iff] at hd
    obtain ⟨r, hr, rfl⟩ := hd
    obtain ⟨T, hT⟩ := rd.tup_ref
    rw [hT] at rd
    obtain ⟨tv, h1, h2, h3⟩ := rd.isTup st.ok
    exact ⟨T, tv, r, by rw [Array.getElem?_eq_getElem hj, hT], h1, hr, h2, h3⟩
  let Ts : Nat → Addr := fun j => match vs[j]? with | some (.ref T) => T | _ => 0
  have hTs : ∀ j T, vs[j]? = some (.ref T) → Ts j = T := fun j T e => by simp only [Ts, e]
  have ex : ∃ vals : Nat → Array Value, ∀ j, j < vs.size → s₁.heap.IsTuple (Ts j) (vals j) ∧ ∃ r, rows[j]? = some r ∧ RdAll Φ₁ (vals j).toList r := by
    have : ∀ j, ∃ tv : Array Value, j < vs.size → s₁.heap.IsTuple (Ts j) tv ∧ ∃ r, rows[j]? = some r ∧ RdAll Φ₁ tv.toList r := fun j => by
      by_cases hj : j < vs.size
      · obtain ⟨T, tv, r, h1, h2, h3, h4, _⟩ := each j hj
        exact ⟨tv, fun _ => ⟨by rw [hTs j T h1]; exact h2, r, h3, h4⟩⟩
      · exact ⟨#[], fun h => absurd h hj⟩
    exact ⟨fun j => Classical.choose (this j), fun j => Classical.choose_spec (this j)⟩
  obtain ⟨vals, hvals⟩ := ex
  have hTlive : ∀ j, j < vs.size → (∃ o, s₁.heap.get? (Ts j) = some o) ∧ Φ₁ (Ts j) ≠ none := fun j hj => by
    obtain ⟨T, tv, r, h1, ⟨o, ho, _⟩, h3, h4, h5⟩ := each j hj
    rw [hTs j T h1]
    exact ⟨⟨o, ho⟩, h5⟩
  refine wpAny_pyIter_list hl ?_
  have st₂ := push_step st.ok { cls := .type "list_iterator", data := .fields #[.ref a, .int 0 0] }
  have W := WalksU.listOfTuples (prog := X.prog) (w := X.w) hroom.1 s₁.heap.objs.size a hne vs Ts vals (fun j hj => by
      obtain ⟨T, tv, r, h1, _⟩ := each j hj
      rw [h1, hTs j T h1]) (fun j hj q => by
      obtain ⟨⟨o, ho⟩, _⟩ := hTlive j hj
      rw [q, hn] at ho; cases ho)
  have hrl' : rows.length = vs.size := hlen.symm
  refine ⟨rows, σ₁, Φ₁, st.trans st₂, q, hrl, s₁.heap.objs.size, s₁.heap.objs.size :: a :: (List.range vs.size).map Ts, [s₁.heap.objs.size], (fun j h => h.IsListIter s₁.heap.objs.size a j ∧ h.IsList a vs ∧ ∀ k, k < vs.size → h.IsTuple (Ts k) (vals k)), rfl, ?_⟩
  have mem : ∀ b ∈ (s₁.heap.objs.size :: a :: (List.range vs.size).map Ts), b = s₁.heap.objs.size ∨ ((∃ o, s₁.heap.get? b = some o) ∧ Φ₁ b ≠ none) := fun b hb => by
    rcases List.mem_cons.mp hb with rfl | hb
    · exact .inl rfl
    · rcases List.mem_cons.mp hb with rfl | hb
      · exact .inr ⟨ha, hfa⟩
      · obtain ⟨j, hj, rfl⟩ := List.mem_map.mp hb
        exact .inr (hTlive j (List.mem_range.mp hj))
  refine .ofWalksU (by rw [hrl']; exact W) ⟨⟨_, Heap.get?_push_size _ rfl, rfl, rfl⟩, hl.push _, fun k hk => (hvals k hk).1.push _⟩ (fun j v hj hv => ?_) (fun b hb => ?_) (fun b hb => ?_) (fun b hb => ?_) (fun j h hst b hb => ?_)
  · subst hv
    exact (hvals j (hrl' ▸ hj)).2
  · rcases mem b hb with rfl | ⟨⟨o, ho⟩, _⟩
    · exact ⟨_, Heap.get?_push_size _ rfl⟩
    · exact ⟨o, Heap.get?_push_of_some _ ho⟩
  · rcases mem b hb with rfl | ⟨_, hf⟩
    · exact .inr ⟨st.live _ hn, st.ok.freshS hn, st.ok.freshF hn⟩
    · exact .inl hf
  · rcases List.mem_cons.mp hb with rfl | hb
    · exact ⟨st.live _ hn, st.ok.freshS hn, st.ok.freshF hn⟩
    · cases hb
  · rcases List.mem_cons.mp hb with rfl | hb
    · obtain ⟨o, ho, _⟩ := hst.1; exact ⟨o, ho⟩
    · cases hb

theorem SI_zip {x y : Expr} {e f : E} {elts : List Expr} {kk : Nat} {p pf pos : Pos} (G : Gnd X) (hx : SE X n sc names x e) (hy : SE X n sc names y f) (hk : sc.names.lookup ("zip" : Str) = some .globalImplicit) (hs : notStar x = true) (hs' : notStar y = true) :
    SI X n sc names (.Tuple elts kk p) (.Call (.Name "zip" pf) [x, y] [] pos) (.zip e f) 2 := by
  intro env A s Φ ρ σ Q he eo hroom ok F h
  refine call_blt (fv := .type "zip") (Qs := fun ds σ => ∃ ds' es, ds.getD 0 .none = .lst ds' ∧ ds.getD 1 .none = .lst es ∧ ds.length = 2 ∧ Q ((ds'.zip es).map fun (p : D × D) => [p.1, p.2]) σ) G (by simp [bNames]) (SEs_cons hx (SEs_cons hy SEs_nil hs') hs) hk (by simp [hs, hs']) he eo hroom ok F ?_ ?_
  · show e X n ρ σ fun x σ => f X n ρ σ fun y σ => _
    exact h
  rintro _ s₁ dd σ₁ Φ₁ st r ⟨ds, es, e1, e2, e3, q'⟩
  obtain ⟨d1, d2, rfl⟩ : ∃ d1 d2, dd = [d1, d2] := by
    match dd, e3 with
    | [d1, d2], _ => exact ⟨d1, d2, rfl⟩
  cases e1
  cases e2
  cases r with
  | cons r1 r2 =>
    cases r2 with
    | cons r2 r3 =>
      cases r3
      obtain ⟨a, rfl⟩ := r1.lst_ref
      obtain ⟨b, rfl⟩ := r2.lst_ref
      obtain ⟨xs, hl1, ra1, hf1⟩ := r1.isList st.ok
      obtain ⟨ys, hl2, ra2, hf2⟩ := r2.isList st.ok
      have len1 := ra1.length
      have len2 := ra2.length
      simp only [Array.length_toList] at len1 len2
      have h1 : ∃ o, s₁.heap.get? a = some o := let ⟨o, ho, _⟩ := hl1; ⟨o, ho⟩
      have h2 : ∃ o, s₁.heap.get? b = some o := let ⟨o, ho, _⟩ := hl2; ⟨o, ho⟩
      have lt1 : a < s₁.heap.objs.size := let ⟨o, ho⟩ := h1; Heap.lt_size ho
      have lt2 : b < s₁.heap.objs.size := let ⟨o, ho⟩ := h2; Heap.lt_size ho
      generalize hN : s₁.heap.objs.size = N at lt1 lt2
      refine call_zip_2 hl1 hl2 fun h' hz hTI hTO hi1 hi2 _ hkeep => wpAny_pyIter_zip hz ?_
      rw [hN] at hz hTI hTO hi1 hi2 ⊢
      have st₂ : Step X.g s₁ { s₁ with heap := h' } Φ₁ Φ₁ σ₁ σ₁ := Step.keeps st.ok hkeep
      have new : ∀ k, s.heap.get? (N + k) = none ∧ σ₁ (N + k) = none ∧ Φ₁ (N + k) = none := fun k => by
        have hb : s₁.heap.get? (N + k) = none := none_of_ge (hN ▸ Nat.le_add_right _ _)
        exact ⟨st.live _ hb, st.ok.freshS hb, st.ok.freshF hb⟩
      have W := WalksT.zip2 (prog := X.prog) (w := X.w) hroom.1 (N + 4) (N + 2) (N + 3) N (N + 1) a b (zipApart_new lt1 lt2) xs ys
      have hrl : ((ds.zip es).map fun p => [p.1, p.2]).length = min xs.size ys.size := by simp [len1, len2]
      refine ⟨_, σ₁, Φ₁, st.trans st₂, q', fun r hr => ?_, N + 4, [N + 4, N + 2, N + 3, N, N + 1, a, b], [N + 4, N + 3, N, N + 1],
        (fun i h => IsZip h (N + 4) (N + 2) (N + 3) .none ∧ IsPair h (N + 2) (.ref N) (.ref (N + 1)) ∧ (∃ a b, IsPair h (N + 3) a b) ∧ h.IsListIter N a i ∧ h.IsListIter (N + 1) b i ∧ h.IsList a xs ∧ h.IsList b ys), rfl, ?_⟩
      · obtain ⟨pr, _, rfl⟩ := List.mem_map.mp hr
        rfl
      have mem : ∀ c ∈ [N + 4, N + 2, N + 3, N, N + 1, a, b], (∃ o, h'.get? c = some o) ∧ (Φ₁ c ≠ none ∨ (s.heap.get? c = none ∧ σ₁ c = none ∧ Φ₁ c = none)) := fun c hc => by
        simp only [List.mem_cons, List.not_mem_nil, or_false] at hc
        rcases hc with rfl | rfl | rfl | rfl | rfl | rfl | rfl
        · exact ⟨⟨_, hz⟩, .inr (new 4)⟩
        · exact ⟨⟨_, hTI⟩, .inr (new 2)⟩
        · exact ⟨⟨_, hTO⟩, .inr (new 3)⟩
        · exact ⟨let ⟨o, ho, _⟩ := hi1; ⟨o, ho⟩, .inr (new 0)⟩
        · exact ⟨let ⟨o, ho, _⟩ := hi2; ⟨o, ho⟩, .inr (new 1)⟩
        · exact ⟨let ⟨o, ho⟩ := h1; ⟨o, hkeep _ o ho⟩, .inl hf1⟩
        · exact ⟨let ⟨o, ho⟩ := h2; ⟨o, hkeep _ o ho⟩, .inl hf2⟩
      refine .ofWalksU (by rw [hrl]; exact W.toU) ⟨hz, hTI, ⟨_, _, hTO⟩, hi1, hi2, hl1.at fun o e => hkeep _ o e, hl2.at fun o e => hkeep _ o e⟩ (fun j v hj hv => ?_) (fun b hb => (mem b hb).1) (fun b hb => (mem b hb).2) (fun b hb => ?_) (fun j h hst b hb => ?_)
      · obtain ⟨x, y, hx, hy, rfl⟩ := hv
        obtain ⟨d1, hd1, r1⟩ := ra1.get' (k := j) (v := x) (by simpa using hx)
        obtain ⟨d2, hd2, r2⟩ := ra2.get' (k := j) (v := y) (by simpa using hy)
        exact ⟨[d1, d2], by simp [List.getElem?_zip_eq_some, hd1, hd2], .cons r1 (.cons r2 .nil)⟩
      · simp only [List.mem_cons, List.not_mem_nil, or_false] at hb
        rcases hb with rfl | rfl | rfl | rfl
        · exact new 4
        · exact new 3
        · exact new 0
        · exact new 1
      · simp only [List.mem_cons, List.not_mem_nil, or_false] at hb
        rcases hb with rfl | rfl | rfl | rfl
        · exact ⟨_, hst.1⟩
        · obtain ⟨a, b, ho⟩ := hst.2.2.1; exact ⟨_, ho⟩
        · obtain ⟨o, ho, _⟩ := hst.2.2.2.1; exact ⟨o, ho⟩
        · obtain ⟨o, ho, _⟩ := hst.2.2.2.2.1; exact ⟨o, ho⟩
end
end Mine
set_option maxRecDepth 10000
namespace Mine
open PySem PyProof.Rows
section
variable {X : Cx} {n : Nat} {sc : Scope} {names : List Str} {g : Heap} {env : Env} {ρ : List MV} {σ : Sg} {Φ : Fz} {h : Heap}

theorem FrameX.emp {m cm : Str → Option Value} {μ : Nat → Option Addr} (F : FrameX g env names ρ σ Φ h m cm μ) : FrameX g env names ρ empS Φ h m cm μ :=
  { F with priv := fun a ha => ⟨rfl, (F.priv a ha).2⟩ }

theorem FrameX.freeze {m cm : Str → Option Value} {μ : Nat → Option Addr} (F : FrameX g env names ρ σ Φ h m cm μ) {i : Nat} {x : Str} {ds : List D} (hi : names[i]? = some x) (ha : acc env x) (hm : ρ.getD i .unb = .mt ds) :
    ∃ a o, h.get? a = some o ∧ σ a = none ∧ Φ a = none ∧ ∃ μ', FrameX g env names (ρ.set i (.val (.lst ds))) σ (Fz.put Φ a o) h m cm μ' := by
  have hlt : i < ρ.length := by
    rw [F.len]
    exact (List.getElem?_eq_some_iff.mp hi).1
  have := F.vars i x hi ha
  rw [hm] at this
  obtain ⟨a, vs, hμ, hlk, ⟨k, hl⟩, hr⟩ := this
  have p := F.priv a (.inr (.inr ⟨i, hμ⟩))
  have le := Fz.le_put (Φ := Φ) (a := a) (o := { cls := .type "list", data := .seq vs k }) p.2.1
  refine ⟨a, _, hl, p.1, p.2.1, fun j => if j = i then none else μ j, ?_⟩
  exact {
      nd := F.nd
      len := by rw [List.length_set]; exact F.len
      ns := F.ns
      cell := F.cell
      cellsIn := F.cellsIn
      hasCell := F.hasCell
      apart := F.apart
      offc := F.offc
      priv := fun b hb => by
        have hb' : Own env μ b ∧ b ≠ a := by
          rcases hb with hb | ⟨n, hb⟩ | ⟨j, hb⟩
          · exact ⟨.inl hb, fun q => (F.offm i a hμ).1 (q ▸ hb)⟩
          · exact ⟨.inr (.inl ⟨n, hb⟩), fun q => (F.offm i a hμ).2 n (q ▸ hb)⟩
          · by_cases q : j = i
            · simp only [if_pos q] at hb; cases hb
            · simp only [if_neg q] at hb
              exact ⟨.inr (.inr ⟨j, hb⟩), fun z => q (F.inj j i a (z ▸ hb) hμ)⟩
        have p := F.priv b hb'.1
        exact ⟨p.1, by rw [Fz.put_ne hb'.2]; exact p.2.1, p.2.2⟩
      vars := fun j y hj hacc => by
        by_cases q : j = i
        · subst q
          have e : y = x := by rw [hi] at hj; cases hj; rfl
          subst e
          simp only [if_true]
          rw [getD_set_self hlt]
          exact ⟨rfl, _, hlk, .lst (Fz.put_self _ _ _) rfl rfl (hr.mono le)⟩
        · simp only [if_neg q]
          rw [getD_set_ne (Ne.symm q)]
          exact (F.vars j y hj hacc).mono le fun _ _ _ e => e
      inj := fun j l b ej el => by
        by_cases q : j = i
        · simp only [if_pos q] at ej; cases ej
        · by_cases q' : l = i
          · simp only [if_pos q'] at el; cases el
          · simp only [if_neg q] at ej
            simp only [if_neg q'] at el
            exact F.inj j l b ej el
      offm := fun j b e => by
        by_cases q : j = i
        · simp only [if_pos q] at e; cases e
        · simp only [if_neg q] at e; exact F.offm j b e
      live := fun j b e => by
        by_cases q : j = i
        · simp only [if_pos q] at e; cases e
        · simp only [if_neg q] at e; exact F.live j b e }

/-- names that may be lent -/
def lendS (sc : Scope) (names : List Str) (xs : List Nat) : Bool := xs.all fun i => match names[i]? with
  | some x => accS sc x
  | none => false

theorem lend (he : env.scope = sc) : ∀ (xs : List Nat) (ρ : List MV) (Φ : Fz), lendS sc names xs = true → Ok X.g empS Φ h → (∃ m cm μ, FrameX X.g env names ρ empS Φ h m cm μ) →
    ∃ Φ', Fz.le Φ Φ' ∧ Ok X.g empS Φ' h ∧ Frame X.g env names (frzAll ρ xs) empS Φ' h
  | [], ρ, Φ, _, ok, ⟨m, cm, μ, F⟩ => ⟨Φ, Fz.le.refl _, ok, m, cm, μ, F⟩
  | i :: xs, ρ, Φ, hl, ok, ⟨m, cm, μ, F⟩ => by
    simp only [lendS, List.all_cons, Bool.and_eq_true] at hl
    obtain ⟨hi, hl⟩ := hl
    have hl' : lendS sc names xs = true := hl
    cases hx : names[i]? with
    | none => rw [hx] at hi; cases hi
    | some x =>
      rw [hx] at hi
      cases e : ρ.getD i .unb with
      | mt ds =>
        obtain ⟨a, o, h1, h2, h3, μ', F'⟩ := F.freeze hx (acc_of he hi) e
        obtain ⟨Φ', le, ok', F''⟩ := lend he xs _ _ hl' (ok.freeze h1 h2 h3) ⟨m, cm, μ', F'⟩
        refine ⟨Φ', (Fz.le_put h3).trans le, ok', ?_⟩
        simp only [frzAll, e]
        exact F''
      | unb =>
        obtain ⟨Φ', le, ok', F''⟩ := lend he xs ρ _ hl' ok ⟨m, cm, μ, F⟩
        refine ⟨Φ', le, ok', ?_⟩
        simp only [frzAll, e]
        exact F''
      | val d =>
        obtain ⟨Φ', le, ok', F''⟩ := lend he xs ρ _ hl' ok ⟨m, cm, μ, F⟩
        refine ⟨Φ', le, ok', ?_⟩
        simp only [frzAll, e]
        exact F''

theorem Rd.atom {Φ Φ' : Fz} {v : Value} {d : D} (r : Rd Φ v d) (h : d.atom = true) : Rd Φ' v d := by
  cases r with
  | none => exact .none
  | bool b => exact .bool b
  | int i t => exact .int i t
  | str x t => exact .str x t
  | tup => cases h
  | lst => cases h
  | ref => cases h
theorem RdAll.atom {Φ Φ' : Fz} {vs : List Value} {ds : List D} (r : RdAll Φ vs ds) (h : ds.all D.atom = true) : RdAll Φ' vs ds := by
  induction vs generalizing ds with
  | nil => cases r; exact .nil
  | cons v vs ih =>
    cases r with
    | cons r1 r2 =>
      simp only [List.all_cons, Bool.and_eq_true] at h
      exact .cons (r1.atom h.1) (ih r2 h.2)

theorem Ok.emp {hp : Heap} (ok : Ok g σ Φ hp) : Ok g empS Φ hp := ⟨fun b o e => ⟨(ok.base b o e).1, rfl⟩, fun b o e => ⟨(ok.frz b o e).1, rfl⟩, fun _ _ e => by cases e⟩

/-- what ran with nothing tracked touched nothing -/
theorem Step.unlend {s s' : Shared} {Φ' Φ'' : Fz} {σ' : Sg} (ok : Ok g σ Φ s.heap) (st : Step g s s' Φ' Φ'' empS σ') : Step g s s' Φ Φ σ σ := by
  obtain ⟨h', tk, rfl⟩ := st.same
  exact Step.keeps ok fun b o e => st.keep b o e rfl

theorem SE_borrow {x : Expr} {e : E} {xs : List Nat} (hl : lendS sc names xs = true) (hx : SE X n sc names x e) : SE X n sc names x (.borrow xs e) := by
  intro env A s Φ ρ σ Q he eo hr ok F h
  obtain ⟨m, cm, μ, F⟩ := F
  obtain ⟨Φ', le, ok', F'⟩ := lend he xs ρ Φ hl ok.emp ⟨m, cm, μ, F.emp⟩
  refine wpAny_mono (hx env A s Φ' _ empS _ he eo hr ok' F' h) ?_ fun _ _ h => h.elim
  rintro v s₁ ⟨d, σ₁, Φ₁, st, r, ha, q⟩
  exact ⟨d, σ, Φ, st.unlend ok, r.atom ha, q⟩

theorem ST_borrow {x : Expr} {e : E} {xs : List Nat} (hl : lendS sc names xs = true) (hx : ST X n sc names x e) : ST X n sc names x (.borrow xs e) := by
  intro env A s Φ ρ σ Q P he eo hr ok F hq h
  obtain ⟨m, cm, μ, F⟩ := F
  obtain ⟨Φ', le, ok', F'⟩ := lend he xs ρ Φ hl ok.emp ⟨m, cm, μ, F.emp⟩
  refine wpAny_mono (hx env A s Φ' _ empS _ (fun b _ => P b σ) he eo hr ok' F' (fun d σ' hd => ?_) h) ?_ fun _ _ h => h.elim
  · obtain ⟨c, e, p⟩ := hq d σ hd.2
    exact ⟨c, e, p⟩
  rintro b s₁ ⟨σ₁, Φ₁, st, p⟩
  exact ⟨σ, Φ, st.unlend ok, p⟩

theorem SL_borrow {x : Expr} {l : L} {xs : List Nat} (hl : lendS sc names xs = true) (hx : SL X n sc names x l) : SL X n sc names x (.borrow xs l) := by
  intro env A s Φ ρ σ Q he eo hr ok F h
  obtain ⟨m, cm, μ, F⟩ := F
  obtain ⟨Φ', le, ok', F'⟩ := lend he xs ρ Φ hl ok.emp ⟨m, cm, μ, F.emp⟩
  refine wpAny_mono (hx env A s Φ' _ empS _ he eo hr ok' F' h) ?_ fun _ _ h => h.elim
  rintro v s₁ ⟨a, vs, ds, σ₁, Φ₁, rfl, st, hn, hpl, h1, h2, r, ha, q⟩
  exact ⟨a, vs, ds, σ, Φ, rfl, st.unlend ok, hn, hpl, ok.freshS hn, ok.freshF hn, r.atom ha, q⟩
end
end Mine
set_option maxRecDepth 10000
namespace Mine
open PySem PyProof.Rows
/-- a function of the text, as the program's top has left it -/
def FnAt (X : Cx) (a : Addr) (sc : Scope) (ps : List Str) (body : List Stmt) : Prop :=
  ∃ o fd, X.g.get? a = some o ∧ o.data = .func fd ∧ fd.scope = sc ∧ fd.body = .stmts body ∧ fd.globals = mainGlobals ∧ fd.builtins = builtinsNs ∧ fd.closure = [] ∧
    X.g.CodeRec fd.code fd.qualname ∧ ∀ vals : List Value, vals.length = ps.length → bindArgs fd ⟨vals, []⟩ = pure (ps.zip vals)

def FnIs (X : Cx) (f : Str) (sc : Scope) (ps : List Str) (body : List Stmt) : Prop := ∃ a, X.mg f = some (.ref a) ∧ FnAt X a sc ps body
theorem FnIs.isFn {X : Cx} {f : Str} {sc : Scope} {ps : List Str} {body : List Stmt} (h : FnIs X f sc ps body) : IsFn X f := let ⟨a, h1, o, fd, h2, h3, _⟩ := h; ⟨a, o, fd, h1, h2, h3⟩

structure ScOk (sc : Scope) (names ps : List Str) : Prop where
  kind : sc.kind = .function
  gen : sc.isGenerator = false
  cor : sc.isCoroutine = false
  free : ∀ x ∈ sc.names, x.2 ≠ .free
  nds : (sc.names.map (·.1)).Nodup
  nd : names.Nodup
  pre : names.take ps.length = ps
  st : ∀ p ∈ ps, stS sc p = true

def scOk (sc : Scope) (names ps : List Str) : Bool :=
  sc.kind == .function && !sc.isGenerator && !sc.isCoroutine && sc.names.all (fun x => x.2 != .free) && decide ((sc.names.map (·.1)).Nodup) && decide (names.Nodup) && (names.take ps.length == ps) && ps.all (stS sc)
theorem ScOk.of {sc : Scope} {names ps : List Str} (h : scOk sc names ps = true) : ScOk sc names ps := by
  simp only [scOk, Bool.and_eq_true, Bool.not_eq_true', beq_iff_eq, List.all_eq_true, bne_iff_ne, ne_eq, decide_eq_true_eq] at h
  obtain ⟨⟨⟨⟨⟨⟨⟨h1, h2⟩, h3⟩, h4⟩, h5⟩, h6⟩, h7⟩, h8⟩ := h
  exact ⟨h1, h2, h3, h4, h5, h6, h7, h8⟩

theorem bindL_out {k : Str → Option NameKind} {x : Str} : ∀ (bs : List (Str × Value)) (m : Str → Option Value), x ∉ bs.map (·.1) → bindL k bs m x = m x
  | [], _, _ => rfl
  | (n, v) :: r, m, h => by
    simp only [List.map_cons, List.mem_cons, not_or] at h
    rw [bindL, bindL_out r _ h.2]
    split
    · simp [h.1]
    · rfl
theorem bindC_out {k : Str → Option NameKind} {x : Str} : ∀ (bs : List (Str × Value)) (m : Str → Option Value), x ∉ bs.map (·.1) → bindC k bs m x = m x
  | [], _, _ => rfl
  | (n, v) :: r, m, h => by
    simp only [List.map_cons, List.mem_cons, not_or] at h
    rw [bindC, bindC_out r _ h.2]
    split
    · rfl
    · simp [h.1]
theorem bindL_in {k : Str → Option NameKind} {x : Str} {v : Value} (hk : k x = some .local) : ∀ (bs : List (Str × Value)) (m : Str → Option Value), (bs.map (·.1)).Nodup → (x, v) ∈ bs → bindL k bs m x = some v
  | (n, u) :: r, m, nd, h => by
    simp only [List.map_cons, List.nodup_cons] at nd
    rcases List.mem_cons.mp h with e | h
    · cases e
      rw [bindL, bindL_out r _ nd.1, if_pos hk]
      simp
    · rw [bindL]
      exact bindL_in hk r _ nd.2 h
theorem bindC_in {k : Str → Option NameKind} {x : Str} {v : Value} (hk : k x ≠ some .local) : ∀ (bs : List (Str × Value)) (m : Str → Option Value), (bs.map (·.1)).Nodup → (x, v) ∈ bs → bindC k bs m x = some v
  | (n, u) :: r, m, nd, h => by
    simp only [List.map_cons, List.nodup_cons] at nd
    rcases List.mem_cons.mp h with e | h
    · cases e
      rw [bindC, bindC_out r _ nd.1, if_neg hk]
      simp
    · rw [bindC]
      exact bindC_in hk r _ nd.2 h

theorem cellsFrom_nodup : ∀ (names : List (Str × NameKind)) (n : Nat) (acc : List (Str × Addr)), (names.map (·.1)).Nodup → (acc.map (·.1)).Nodup → (∀ x ∈ names.map (·.1), x ∉ acc.map (·.1)) → ((cellsFrom n names acc).map (·.1)).Nodup
  | [], _, _, _, h, _ => h
  | (y, k) :: r, n, acc, nd, h, hx => by
    simp only [List.map_cons, List.nodup_cons] at nd
    simp only [List.map_cons, List.mem_cons, forall_eq_or_imp] at hx
    unfold cellsFrom
    split
    · refine cellsFrom_nodup r _ _ nd.2 (by simp only [List.map_cons, List.nodup_cons]; exact ⟨hx.1, h⟩) fun x hxm => ?_
      simp only [List.map_cons, List.mem_cons, not_or]
      exact ⟨fun e => nd.1 (e ▸ hxm), hx.2 x hxm⟩
    · exact cellsFrom_nodup r _ _ nd.2 h hx.2

def flD : Fl → D
  | .next => .none
  | .ret d => d

section
variable {X : Cx} {n : Nat} {sc : Scope} {names : List Str}

theorem CallSem.le {f : Str} {ds : List D} {σ : Sg} {Q : D → Sg → Prop} {k : Nat} (h : CallSem X n f ds σ Q) (hk : n ≤ k) : CallSem X k f ds σ Q :=
  fun a ha A s Φ vs hr ok r => h a ha A s Φ vs (hr.le hk) ok r
theorem CallSem.mono {f : Str} {ds : List D} {σ : Sg} {Q Q' : D → Sg → Prop} (h : CallSem X n f ds σ Q) (hq : ∀ d σ, Q d σ → Q' d σ) : CallSem X n f ds σ Q' :=
  fun a ha A s Φ vs hr ok r => wpAny_mono (h a ha A s Φ vs hr ok r) (fun _ _ ⟨d, σ', Φ', st, rd, q⟩ => ⟨d, σ', Φ', st, rd, hq _ _ q⟩) fun _ _ h => h

theorem call_at {a : Addr} {ps : List Str} {body : List Stmt} {ms : List S} {ds : List D} {σ : Sg} {Q : D → Sg → Prop} (G : Gnd X) (hf : FnAt X a sc ps body) (hs : ScOk sc names ps) (hb : SSs X n sc names body ms) (hlen : ds.length = ps.length)
    (h : mExecs X n ms (ds.map .val ++ List.replicate (names.length - ps.length) .unb) σ (fun fl _ σ' => (∀ b, σ b ≠ none → σ' b ≠ none) ∧ Q (flD fl) σ')) : CallA X (n + 1) (.ref a) ds σ Q := by
  intro A s Φ vs hroom ok hr
  obtain ⟨o, fd, h2, h3, rfl, hbody, hgl, hbl, hclo, hcd, hbind⟩ := hf
  have hvl : vs.length = ps.length := hr.length.trans hlen
  have ho := (ok.base _ _ h2).1
  have keepG : ∀ b o, X.g.get? b = some o → s.heap.get? b = some o := fun b o e => (ok.base b o e).1
  have hpn : ∀ p ∈ ps, fd.scope.names.lookup p = some .local ∨ fd.scope.names.lookup p = some .cell := fun p hp => by
    have := hs.st p hp
    unfold stS at this
    split at this
    · exact .inl (by assumption)
    · exact .inr (by assumption)
    · cases this
  have zmap : (ps.zip vs).map (·.1) = ps := by rw [List.map_fst_zip]; omega
  have psnd : ps.Nodup := by rw [← hs.pre]; exact hs.nd.sublist (List.take_sublist _ _)
  refine wpAny_call (codeAny_call_cells (body := body) (by have := hroom.2.1; omega) ho h3 (G.lim.keeps keepG) (hcd.keeps keepG) hbody (hbind vs hvl) hclo (fun x hx => ?_) (fun s₁ x => ?_) hs.cor hs.gen hs.kind)
  · have hxp : x.1 ∈ ps := (List.of_mem_zip (show (x.1, x.2) ∈ ps.zip vs from hx)).1
    rcases hpn x.1 hxp with q | q
    · exact .inl q
    · exact .inr ⟨q, W.cellsFrom_some _ _ _ (.inl q)⟩
  generalize hL : s.heap.objs.size = L at x ⊢
  generalize henv : callEnvC fd L a = env at x ⊢
  have eloc : env.locals = L := by rw [← henv]; rfl
  have ecl : env.cells = cellsFrom (L + 1) fd.scope.names [] := by rw [← henv]; rfl
  have esc : env.scope = fd.scope := by rw [← henv]; rfl
  have eo : EnvOk env := by
    refine ⟨?_, ?_, ?_⟩
    · rw [esc]; exact hs.kind
    · rw [← henv]; exact hgl
    · rw [← henv]; exact hbl
  have clnd : (env.cells.map (·.1)).Nodup := by rw [ecl]; exact cellsFrom_nodup _ _ _ hs.nds (by simp) (by simp)
  have fresh : ∀ b, Own env (fun _ => none) b → s.heap.get? b = none := fun b hb => by
    rcases hb with hb | ⟨m, hb⟩ | ⟨_, hb⟩
    · exact none_of_ge (by rw [hb, eloc, hL]; exact Nat.le_refl _)
    · have := x.above m b hb
      rw [eloc] at this
      exact none_of_ge (by rw [hL]; exact Nat.le_of_lt this)
    · cases hb
  have keep := x.toInCall.keep
  have fgr : ∀ b, s.heap.get? b = none → X.g.get? b = none := fun b hb => by
    cases e : X.g.get? b with
    | none => rfl
    | some o => rw [keepG b o e] at hb; cases hb
  have hlt : ps.length ≤ names.length := by
    have := congrArg List.length hs.pre
    rw [List.length_take] at this; omega
  have F : FrameX X.g env names (ds.map .val ++ List.replicate (names.length - ps.length) .unb) σ Φ s₁.heap (bindL env.kindOf (ps.zip vs) fun _ => none) (bindC env.kindOf (ps.zip vs) fun _ => none) (fun _ => none) := {
    nd := hs.nd
    len := by simp; omega
    ns := x.toInCall.ns
    cell := x.cell
    cellsIn := fun m c hm => let ⟨o, ho, _⟩ := x.cell m c (lookup_of_mem_nodup clnd hm); ⟨o, ho⟩
    hasCell := fun y hy => by
      rw [Env.kindOf_sc esc] at hy
      rw [ecl]
      rcases hy with hy | hy
      · exact W.cellsFrom_some _ _ _ (.inl hy)
      · exact absurd rfl (hs.free _ (mem_of_lookup hy))
    apart := x.apart
    offc := fun m c hm => Nat.ne_of_gt (x.above m c hm)
    priv := fun b hb => ⟨ok.freshS (fresh b hb), ok.freshF (fresh b hb), fgr b (fresh b hb)⟩
    vars := fun i y hi hacc => by
      by_cases hlt' : i < ps.length
      · have hd : i < ds.length := by omega
        have e1 : (ds.map MV.val ++ List.replicate (names.length - ps.length) MV.unb).getD i MV.unb = .val ds[i] := by
          simp [List.getD, List.getElem?_append, hd]
        rw [e1]
        have hy : ps[i]? = some y := by rw [← hs.pre, List.getElem?_take, if_pos hlt']; exact hi
        obtain ⟨v, hv, rd⟩ := hr.get (k := i) (List.getElem?_eq_getElem hd)
        have hmem : (y, v) ∈ ps.zip vs := by
          refine List.mem_of_getElem? (i := i) ?_
          rw [List.getElem?_zip_eq_some]
          exact ⟨hy, hv⟩
        have hyp : y ∈ ps := List.mem_of_getElem? hy
        refine ⟨rfl, v, ?_, rd⟩
        unfold look
        rcases hpn y hyp with q | q
        · have q' : env.kindOf y = some .local := by rw [Env.kindOf_sc esc]; exact q
          rw [q']
          exact bindL_in q' _ _ (by rw [zmap]; exact psnd) hmem
        · have q' : env.kindOf y = some .cell := by rw [Env.kindOf_sc esc]; exact q
          rw [q']
          exact bindC_in (by rw [q']; simp) _ _ (by rw [zmap]; exact psnd) hmem
      · have e1 : (ds.map MV.val ++ List.replicate (names.length - ps.length) MV.unb).getD i MV.unb = .unb := by
          simp only [List.getD, List.getElem?_append, List.length_map, List.getElem?_replicate]
          rw [if_neg (by omega)]
          split <;> rfl
        rw [e1]
        rfl
    inj := fun _ _ _ e => by cases e
    offm := fun _ _ e => by cases e
    live := fun _ _ e => by cases e }
  have okk : Ok X.g σ Φ s₁.heap := by
    obtain ⟨h', tk, rfl⟩ := x.toInCall.same
    exact (Step.keeps (tk := tk) ok keep).ok
  have I : Inv X env names (fun b => if σ b = none then s.heap.get? b else none) Φ (ds.map .val ++ List.replicate (names.length - ps.length) .unb) σ Φ s₁.heap := by
    refine ⟨okk, Fz.le.refl _, fun b o e => ?_, fun b _ hf => hf, _, _, _, F, fun b hb => ?_⟩
    · split at e
      · exact ⟨keep b o e, by assumption⟩
      · cases e
    · split
      · exact fresh b hb
      · rfl
  refine wpAny_mono (hb env _ s₁ _ Φ _ σ Φ _ esc eo hroom.deeper I h) ?_ fun _ _ h => h.elim
  rintro fl s₂ ⟨fl', ρ', σ', Φ', hs₂, I₂, le, fr, hd, q⟩
  have sm : ∃ h' tk, s₂ = { s with heap := h', toks := tk } := by
    obtain ⟨h', tk, rfl⟩ := x.toInCall.same
    obtain ⟨h'', tk', rfl⟩ := hs₂
    exact ⟨h'', tk', rfl⟩
  have prot : ∀ b o, s.heap.get? b = some o → σ b = none → s₂.heap.get? b = some o ∧ σ' b = none := fun b o e hn => I₂.prot b o (by rw [if_pos hn]; exact e)
  have st : Step X.g s s₂ Φ Φ' σ σ' := by
    refine ⟨sm, fun b o e hn => (prot b o e hn).1, I₂.mono0, I₂.ok, fun b hb' => ?_, fun b hb' => ?_, fun b hb' => ?_⟩
    · by_cases hn : σ b = none
      · cases e : s.heap.get? b with
        | none => exact .inr rfl
        | some o => exact absurd (prot b o e hn).2 hb'
      · exact .inl hn
    · by_cases hn : σ b = none
      · cases e : s.heap.get? b with
        | none => exact .inr (.inr rfl)
        | some o => exact .inl (I₂.priv b (by rw [if_pos hn, e]; simp) hb')
      · exact .inr (.inl hn)
    · cases e : s.heap.get? b with
      | none => rfl
      | some o =>
        by_cases hn : σ b = none
        · rw [(prot b o e hn).1] at hb'; cases hb'
        · have := hd b hn
          cases e' : σ' b with
          | none => exact absurd e' this
          | some t => obtain ⟨o', ho'⟩ := (I₂.ok.trk b t e').isSome; rw [ho'] at hb'; cases hb'
  cases fl' with
  | next =>
    cases fl <;> simp only [FlRel] at fr
    exact ⟨_, σ', Φ', st, .none, q⟩
  | ret d =>
    cases fl <;> simp only [FlRel] at fr
    exact ⟨_, σ', Φ', st, fr, q⟩
theorem call_intro {f : Str} {ps : List Str} {body : List Stmt} {ms : List S} {ds : List D} {σ : Sg} {Q : D → Sg → Prop} (G : Gnd X) (hf : FnIs X f sc ps body) (hs : ScOk sc names ps) (hb : SSs X n sc names body ms) (hlen : ds.length = ps.length)
    (h : mExecs X n ms (ds.map .val ++ List.replicate (names.length - ps.length) .unb) σ (fun fl _ σ' => (∀ b, σ b ≠ none → σ' b ≠ none) ∧ Q (flD fl) σ')) : CallSem X (n + 1) f ds σ Q := by
  intro a ha
  obtain ⟨a', h1, hf⟩ := hf
  rw [ha] at h1; cases h1
  exact call_at G hf hs hb hlen h
end
end Mine
set_option maxRecDepth 10000
namespace Mine
open PySem PyProof.Rows
theorem lookup_zip : ∀ (ps : List Str) (vs : List Value) (x : Str), ps.length = vs.length → x ∈ ps → ((ps.zip vs).lookup x).isSome = true
  | p :: ps, v :: vs, x, hl, hx => by
    simp only [List.zip_cons_cons, List.lookup]
    by_cases e : (x == p) = true
    · simp [e]
    · simp only [Bool.not_eq_true] at e
      simp only [e]
      rcases List.mem_cons.mp hx with rfl | hx
      · simp at e
      · exact lookup_zip ps vs x (by simpa using hl) hx
theorem filterMap_zip : ∀ (ps : List Str) (vs : List Value), ps.Nodup → ps.length = vs.length → ∀ (pre : List (Str × Value)), (∀ p ∈ ps, pre.lookup p = none) → ps.filterMap (fun n => ((pre ++ ps.zip vs).lookup n).map (n, ·)) = ps.zip vs
  | [], _, _, _, _, _ => by simp
  | p :: ps, [], _, hl, _, _ => by simp at hl
  | p :: ps, v :: vs, nd, hl, pre, hp => by
    simp only [List.nodup_cons] at nd
    have e1 : (pre ++ (p :: ps).zip (v :: vs)).lookup p = some v := by
      rw [List.lookup_append, hp p (by simp)]
      simp [List.lookup]
    rw [List.filterMap_cons, e1]
    simp only [Option.map_some, List.zip_cons_cons]
    congr 1
    have := filterMap_zip ps vs nd.2 (by simpa using hl) (pre ++ [(p, v)]) fun q hq => by
      rw [List.lookup_append, hp q (by simp [hq])]
      have : (q == p) = false := by
        simp only [beq_eq_false_iff_ne, ne_eq]
        rintro rfl
        exact nd.1 hq
      simp [List.lookup, this]
    simpa using this

theorem bind_plain {fd : FuncData} {as : List Arg} {kd : List (Option Expr)} {df : List Expr} {vals : List Value} (hp : fd.params = { posonlyargs := [], args := as, vararg := none, kwonlyargs := [], kw_defaults := kd, kwarg := none, defaults := df })
    (hd : fd.defaults = .none) (nd : (as.map (·.arg)).Nodup) (hl : vals.length = (as.map (·.arg)).length) : bindArgs fd ⟨vals, []⟩ = pure ((as.map (·.arg)).zip vals) := by
  have hm : ((as.map (·.arg)).filter fun n => (((as.map (·.arg)).zip vals).lookup n).isNone) = [] := by
    rw [List.filter_eq_nil_iff]
    intro n hn
    have := lookup_zip _ vals n hl.symm hn
    cases e : ((as.map (·.arg)).zip vals).lookup n with
    | none => rw [e] at this; cases this
    | some v => simp
  have hf := filterMap_zip (as.map (·.arg)) vals nd hl.symm [] (by simp [List.lookup])
  simp only [List.nil_append] at hf
  unfold bindArgs
  rw [hp, hd]
  have hs : seqItems? .none = pure none := rfl
  simp only [hs]
  simp [hl]
  split
  · rename_i hc
    exfalso
    have e : List.take ((List.map (fun x => x.arg) ([] : List Arg) ++ List.map (fun x => x.arg) as).length - (List.drop ((#[] : Array Value).size - (List.map (fun x => x.arg) ([] : List Arg) ++ List.map (fun x => x.arg) as).length) ([] : List Value)).length)
        (List.map (fun x => x.arg) ([] : List Arg) ++ List.map (fun x => x.arg) as) = List.map (fun x => x.arg) as := by
      simp only [List.map_nil, List.nil_append, List.drop_nil, List.length_nil, Nat.sub_zero]
      exact List.take_length
    rw [e, hm] at hc
    simp at hc
  · rw [List.filterMap_map] at hf
    rw [hf]

def noRec (f : Str) : DefRec := ⟨f, { posonlyargs := [], args := [], vararg := none, kwonlyargs := [], kw_defaults := [], kwarg := none, defaults := [] }, [], { kind := .function, names := [], isGenerator := false, isCoroutine := false }, ⟨0, 0, 0, 0⟩⟩
/-- a function of a program's text -/
def recOf (q : Program) (f : Str) : DefRec := ((recsOf q).find? fun d => d.name == f).getD (noRec f)

def plainParams (a : Arguments) (ps : List Str) : Bool := match a with
  | { posonlyargs := [], args := as, vararg := none, kwonlyargs := [], kw_defaults := _, kwarg := none, defaults := _ } => (as.map (·.arg) == ps) && decide ps.Nodup
  | _ => false

theorem fnIs_of_top {p q prog : Program} {w : World} {loose : List Str} {mean : ExcName → Option Value} {mg mb : Str → Option Value} {h : Heap} (T : Top p loose mean mg mb h) {f : Str} {ps : List Str}
    (e : (recsOf p).find? (fun d => d.name == f) = some (recOf q f)) (hp : plainParams (recOf q f).params ps = true) : FnIs ⟨prog, w, h, mg, mb⟩ f (recOf q f).scope ps (recOf q f).body := by
  have hm := List.mem_of_find?_eq_some e
  have hn : (recOf q f).name = f := by simpa using List.find?_some e
  obtain ⟨a, o, pm, code, doc, h1, h2, h3, h4⟩ := T.fn _ hm
  rw [hn] at h1 h4
  refine ⟨a, h1, o, _, h2, h3, rfl, rfl, rfl, rfl, rfl, ?_, fun vals hv => ?_⟩
  · show h.CodeRec code (recOf q f).name
    rw [hn]; exact h4
  · unfold plainParams at hp
    split at hp
    · rename_i as _ _ hpp
      simp only [Bool.and_eq_true, beq_iff_eq, decide_eq_true_eq] at hp
      obtain ⟨rfl, nd⟩ := hp
      exact bind_plain (fd := Calls.docDef (recOf q f).name (recOf q f).params (recOf q f).body (recOf q f).scope pm code doc) hpp rfl nd hv
    · cases hp

/-- no name of the text hides a built-in that we use -/
def bltFree (p : Program) (loose : List Str) : Bool := bNames.all fun x =>
  !(startupNames.contains x.1) && !(loose.contains x.1) && !(((recsOf p).map (·.name)).contains x.1) && !(((litsOf p).map (·.1)).contains x.1) && !(((clssOf p loose).map (·.name)).contains x.1)

theorem boot_names : ∀ x ∈ bNames, x.1 ≠ "__name__" ∧ bootBuiltins x.1 = some x.2 := by
  intro x hx
  have : (bNames.all fun x => x.1 != "__name__" && (match bootBuiltins x.1, x.2 with | some (.builtin a), .builtin b => a == b | some (.type a), .type b => a == b | _, _ => false)) = true := by decide +kernel
  have := List.all_eq_true.mp this x hx
  simp only [Bool.and_eq_true, bne_iff_ne, ne_eq] at this
  refine ⟨this.1, ?_⟩
  have := this.2
  split at this
  · simp_all
  · simp_all
  · cases this

theorem gnd_of_top {p prog : Program} {w : World} {loose : List Str} {mean : ExcName → Option Value} {mg mb : Str → Option Value} {h : Heap} (T : Top p loose mean mg mb h) (hb : bltFree p loose = true) : Gnd ⟨prog, w, h, mg, mb⟩ where
  gl := T.g
  bl := T.b
  lim := T.nolimit
  blt := fun x hx => by
    have := List.all_eq_true.mp hb x hx
    simp only [Bool.and_eq_true, Bool.not_eq_true', List.contains_eq_mem, decide_eq_false_iff_not] at this
    obtain ⟨⟨⟨⟨h1, h2⟩, h3⟩, h4⟩, h5⟩ := this
    have hn := boot_names x hx
    exact ⟨T.free x.1 h1 h2 h3 h4 h5, (T.builtins x.1 hn.1).trans hn.2⟩

end Mine
set_option maxRecDepth 10000
namespace Mine
open PySem PyProof.Rows
theorem ints_rd {Φ : Fz} {vs : List Value} {ns : List Int} (h : IntsAre vs ns) : RdAll Φ vs (ns.map D.int) := by
  induction h with
  | nil => exact .nil
  | cons i t _ ih => exact .cons (.int i t) ih

/-- the law's call, at the claim's caller -/
theorem law_ends {prog : Program} {w : World} {mg mb : Str → Option Value} {s : Shared} {fa l : Addr} {vs : List Value} {ns : List Int} {k : Nat} {P : Value → Shared → Prop} {E : Value → Shared → Prop} {f : Str} (hk : k ≤ 40) (hm : mg f = some (.ref fa))
    (hL : s.heap.IsList l vs.toArray) (hI : IntsAre vs ns) (hc : CallSem ⟨prog, w, s.heap, mg, mb⟩ k f [.lst (ns.map D.int)] empS (fun d _ => d = .bool true))
    (hP : ∀ h' tk, (∀ b o, s.heap.get? b = some o → h'.get? b = some o) → P (.bool true) { s with heap := h', toks := tk }) : wpAny (model prog w) callerA (call (.ref fa) [.ref l]) P E s := by
  obtain ⟨o, ho, hcl, n, hd⟩ := hL
  have ok : Ok s.heap empS (fun b => if b = l then some o else none) s.heap := by
    refine ⟨fun b o e => ⟨e, rfl⟩, fun b o' e => ⟨?_, rfl⟩, fun _ _ e => by cases e⟩
    split at e
    · cases e; subst b; exact ho
    · cases e
  have hroom : Room k callerA := by
    refine Room.le (n := 40) ?_ hk
    unfold Room
    decide +kernel
  refine wpAny_mono (hc fa hm callerA s _ [.ref l] hroom ok (.cons (.lst (o := o) (by simp) hcl hd (ints_rd hI)) .nil)) ?_ fun _ _ h => h.elim
  rintro v s' ⟨d, σ', Φ', st, rd, rfl⟩
  obtain ⟨h', tk, rfl⟩ := st.same
  cases rd
  exact hP h' tk fun b o e => st.keep b o e rfl

end Mine
set_option maxRecDepth 10000
namespace Mine
open PySem PyProof.Rows
def nameAt (names : List Str) (i : Nat) (x : Str) : Bool := names[i]? == some x

def tgtsB (names : List Str) (sc : Scope) : List Expr → List Nat → Bool
  | [], [] => true
  | .Name x _ :: es, i :: is => nameAt names i x && stS sc x && tgtsB names sc es is
  | _, _ => false
def tgtB (names : List Str) (sc : Scope) : Expr → List Nat → Bool
  | .Name x _, [i] => nameAt names i x && stS sc x
  | .Tuple elts _ _, is => tgtsB names sc elts is
  | _, _ => false
def tgtsLB (names : List Str) (sc : Scope) : List Expr → List Nat → Bool
  | [], [] => true
  | .Name x _ :: es, i :: is => nameAt names i x && sc.names.lookup x == some .local && tgtsLB names sc es is
  | _, _ => false
def tgtLB (names : List Str) (sc : Scope) : Expr → List Nat → Bool
  | .Name x _, [i] => nameAt names i x && sc.names.lookup x == some .local
  | .Tuple elts _ _, is => tgtsLB names sc elts is
  | _, _ => false
def compB (sc scope : Scope) (names : List Str) (is : List Nat) : Bool :=
  scope.kind == .function && decide ((scope.names.map (·.1)).Nodup) && scope.names.all (fun y => y.2 != .cell) &&
    scope.names.all (fun y => y.2 != .free || sc.names.lookup y.1 == some .cell || sc.names.lookup y.1 == some .free) &&
    scope.names.all (fun y => y.2 != .local || !names.contains y.1 || is.any fun i => nameAt names i y.1)

theorem nameAt_eq {names : List Str} {i : Nat} {x : Str} (h : nameAt names i x = true) : names[i]? = some x := by simpa [nameAt] using h

theorem tgts_of {names : List Str} {sc : Scope} : ∀ {es : List Expr} {is : List Nat}, tgtsB names sc es is = true → Tgts names sc es is
  | [], [], _ => trivial
  | [], _ :: _, h => by simp [tgtsB] at h
  | e :: es, [], h => by cases e <;> simp [tgtsB] at h
  | e :: es, i :: is, h => by
    cases e <;> simp only [tgtsB, Bool.and_eq_true] at h <;> first | cases h; done | skip
    exact ⟨nameAt_eq h.1.1, h.1.2, tgts_of h.2⟩
theorem tgt_of {names : List Str} {sc : Scope} {e : Expr} {is : List Nat} (h : tgtB names sc e is = true) : TgtOk names sc e is := by
  unfold tgtB at h
  split at h
  · simp only [Bool.and_eq_true] at h
    exact ⟨_, rfl, nameAt_eq h.1, h.2⟩
  · exact tgts_of h
  · cases h
theorem tgtsL_of {names : List Str} {sc : Scope} : ∀ {es : List Expr} {is : List Nat}, tgtsLB names sc es is = true → TgtsL names sc es is
  | [], [], _ => trivial
  | [], _ :: _, h => by simp [tgtsLB] at h
  | e :: es, [], h => by cases e <;> simp [tgtsLB] at h
  | e :: es, i :: is, h => by
    cases e <;> simp only [tgtsLB, Bool.and_eq_true] at h <;> first | cases h; done | skip
    exact ⟨nameAt_eq h.1.1, by simpa using h.1.2, tgtsL_of h.2⟩
theorem tgtL_of {names : List Str} {sc : Scope} {e : Expr} {is : List Nat} (h : tgtLB names sc e is = true) : TgtOkL names sc e is := by
  unfold tgtLB at h
  split at h
  · simp only [Bool.and_eq_true] at h
    exact ⟨_, rfl, nameAt_eq h.1, by simpa using h.2⟩
  · exact tgtsL_of h
  · cases h
theorem comp_of {sc scope : Scope} {names : List Str} {is : List Nat} (h : compB sc scope names is = true) : CompOk sc scope names is := by
  simp only [compB, Bool.and_eq_true, beq_iff_eq, decide_eq_true_eq, List.all_eq_true, bne_iff_ne, ne_eq, Bool.or_eq_true, List.any_eq_true] at h
  obtain ⟨⟨⟨⟨h1, h2⟩, h3⟩, h4⟩, h5⟩ := h
  refine ⟨h1, h2, h3, fun x hx => ?_, fun x hx hn => ?_⟩
  · rcases h4 _ hx with (h | h) | h
    · exact absurd rfl h
    · exact .inl h
    · exact .inr h
  · rcases h5 _ hx with (h | h) | ⟨i, hi, h⟩
    · exact absurd rfl h
    · simp only [Bool.not_eq_true', List.contains_eq_mem, decide_eq_false_iff_not] at h
      exact absurd hn h
    · exact ⟨i, hi, nameAt_eq h⟩


section
variable {X : Cx} {n : Nat} {sc : Scope} {names : List Str}
theorem SE_isint {x : Expr} {e : E} {p p' pos : Pos} (G : Gnd X) (hx : SE X n sc names x e) (hk : sc.names.lookup ("isinstance" : Str) = some .globalImplicit) (hT : sc.names.lookup ("int" : Str) = some .globalImplicit) (hs : notStar x = true) :
    SE X n sc names (.Call (.Name "isinstance" p) [x, .Name "int" p'] [] pos) (.bi .isint [e]) := SE_isi (T := "int") G (by simp) hx hk hT hs
theorem SE_isbool {x : Expr} {e : E} {p p' pos : Pos} (G : Gnd X) (hx : SE X n sc names x e) (hk : sc.names.lookup ("isinstance" : Str) = some .globalImplicit) (hT : sc.names.lookup ("bool" : Str) = some .globalImplicit) (hs : notStar x = true) :
    SE X n sc names (.Call (.Name "isinstance" p) [x, .Name "bool" p'] [] pos) (.bi .isbool [e]) := SE_isi (T := "bool") G (by simp) hx hk hT hs
theorem SE_islist {x : Expr} {e : E} {p p' pos : Pos} (G : Gnd X) (hx : SE X n sc names x e) (hk : sc.names.lookup ("isinstance" : Str) = some .globalImplicit) (hT : sc.names.lookup ("list" : Str) = some .globalImplicit) (hs : notStar x = true) :
    SE X n sc names (.Call (.Name "isinstance" p) [x, .Name "list" p'] [] pos) (.bi .islist [e]) := SE_isi (T := "list") G (by simp) hx hk hT hs
theorem CondOk.nil : CondOk X n sc names [] none := .inl ⟨rfl, rfl⟩
theorem CondOk.one {c : Expr} {e : E} (h : ST X n sc names c e) : CondOk X n sc names [c] (some e) := .inr ⟨c, e, rfl, rfl, h⟩
end
/-- the k-th statement of a program's text, a function's body -/
def stmtAt (q : Program) (k : Nat) : Stmt := q.main.body.getD k (.Pass ⟨0, 0, 0, 0⟩)
def fnScope : Stmt → Scope
  | .FunctionDef _ _ _ _ _ _ scope _ _ _ => scope
  | _ => { kind := .function, names := [], isGenerator := false, isCoroutine := false }
def fnBody : Stmt → List Stmt
  | .FunctionDef _ _ body _ _ _ _ _ _ _ => body
  | _ => []
end Mine
set_option maxRecDepth 10000
namespace Mine
open PySem PyProof.Rows
section
variable {X : Cx} {n : Nat}
/-- a loop by an invariant -/
theorem forT_inv {bd : List MV → Sg → (Fl → List MV → Sg → Prop) → Prop} {is : List Nat} {Q : Fl → List MV → Sg → Prop} {rows : List (List D)} (I : Nat → List MV → Sg → Prop) {ρ : List MV} {σ : Sg} (h0 : I 0 ρ σ)
    (step : ∀ j (hj : j < rows.length) ρ σ, I j ρ σ → bd (setAll ρ is rows[j]) σ fun fl ρ' σ' => match fl with | .next => I (j + 1) ρ' σ' | .ret d => Q (.ret d) ρ' σ')
    (fin : ∀ ρ σ, I rows.length ρ σ → Q .next ρ σ) : forT bd is rows ρ σ Q := by
  have key : ∀ k j ρ σ, k = rows.length - j → j ≤ rows.length → I j ρ σ → forT bd is (rows.drop j) ρ σ Q := by
    intro k
    induction k with
    | zero =>
      intro j ρ σ hk hj hI
      have : j = rows.length := by omega
      subst this
      rw [List.drop_length]
      exact fin _ _ hI
    | succ k ih =>
      intro j ρ σ hk hj hI
      have hlt : j < rows.length := by omega
      rw [List.drop_eq_getElem_cons hlt]
      exact ⟨_, step j hlt ρ σ hI, fun _ _ _ z => z, fun ρ σ z => ih (j + 1) ρ σ (by omega) (by omega) z⟩
  have := key rows.length 0 ρ σ (by omega) (by omega) h0
  simpa using this

theorem for_inv {body : List S} {is : List Nat} {Q : Fl → List MV → Sg → Prop} {rows : List (List D)} (I : Nat → List MV → Sg → Prop) {ρ : List MV} {σ : Sg} (h0 : I 0 ρ σ)
    (step : ∀ j (hj : j < rows.length) ρ σ, I j ρ σ → mExecs X n body (setAll ρ is rows[j]) σ fun fl ρ' σ' => match fl with | .next => I (j + 1) ρ' σ' | .ret d => Q (.ret d) ρ' σ')
    (fin : ∀ ρ σ, I rows.length ρ σ → Q .next ρ σ) : forT (mExecs X n body) is rows ρ σ Q :=
  forT_inv I h0 step fin

/-- a comprehension whose parts are known -/
theorem comp_map {cond elt : List MV → Sg → (D → Sg → Prop) → Prop} {ρ : List MV} {is : List Nat} {σ : Sg} (p : List D → Bool) (f : List D → D) : ∀ {rows : List (List D)} {Q : List D → Sg → Prop},
    (∀ r ∈ rows, ∀ K : D → Sg → Prop, K (.bool (p r)) σ → cond (setAll ρ is r) σ K) → (∀ r ∈ rows, p r = true → ∀ K : D → Sg → Prop, K (f r) σ → elt (setAll ρ is r) σ K) → Q ((rows.filter p).map f) σ → compT cond elt ρ is rows σ Q
  | [], Q, _, _, h => h
  | r :: rs, Q, hc, he, h => by
    simp only [compT]
    refine hc r (by simp) _ ⟨p r, rfl, ?_⟩
    cases hp : p r with
    | true =>
      simp only [if_true]
      refine he r (by simp) hp _ (comp_map p f (fun r hr => hc r (by simp [hr])) (fun r hr => he r (by simp [hr])) ?_)
      simpa [hp] using h
    | false =>
      simp only [Bool.false_eq_true, if_false]
      refine comp_map p f (fun r hr => hc r (by simp [hr])) (fun r hr => he r (by simp [hr])) ?_
      simpa [hp] using h
end
end Mine
set_option maxRecDepth 10000
namespace Mine
open PySem PyProof.Rows
section
variable {Q : D → Prop} {R : Bool → Prop} {i j : Int}
theorem b_add : binT .add (.int i) (.int j) Q = Q (.int (i + j)) := propext ⟨fun ⟨_, hr, q⟩ => by cases hr; exact q, fun q => ⟨_, .add i j, q⟩⟩
theorem b_sub : binT .sub (.int i) (.int j) Q = Q (.int (i - j)) := propext ⟨fun ⟨_, hr, q⟩ => by cases hr; exact q, fun q => ⟨_, .sub i j, q⟩⟩
theorem b_mul : binT .mul (.int i) (.int j) Q = ((small i ∨ small j) ∧ Q (.int (i * j))) := propext ⟨fun ⟨_, hr, q⟩ => by cases hr with | mul _ _ h => exact ⟨h, q⟩, fun q => ⟨_, .mul i j q.1, q.2⟩⟩
theorem b_div : binT .fdiv (.int i) (.int j) Q = (j ≠ 0 ∧ small j ∧ Q (.int (i.fdiv j))) := propext ⟨fun ⟨_, hr, q⟩ => by cases hr with | fdiv _ _ h0 h1 => exact ⟨h0, h1, q⟩, fun q => ⟨_, .fdiv i j q.1 q.2.1, q.2.2⟩⟩
theorem b_mod : binT .mod (.int i) (.int j) Q = (j ≠ 0 ∧ Q (.int (i.fmod j))) := propext ⟨fun ⟨_, hr, q⟩ => by cases hr with | mod _ _ h0 => exact ⟨h0, q⟩, fun q => ⟨_, .mod i j q.1, q.2⟩⟩
theorem c_lt : cmpT .lt (.int i) (.int j) R = R (decide (i < j)) := propext ⟨fun ⟨_, hr, q⟩ => by cases hr; exact q, fun q => ⟨_, .lt i j, q⟩⟩
theorem c_le : cmpT .le (.int i) (.int j) R = R (decide (i ≤ j)) := propext ⟨fun ⟨_, hr, q⟩ => by cases hr; exact q, fun q => ⟨_, .le i j, q⟩⟩
theorem c_gt : cmpT .gt (.int i) (.int j) R = R (decide (j < i)) := propext ⟨fun ⟨_, hr, q⟩ => by cases hr; exact q, fun q => ⟨_, .gt i j, q⟩⟩
theorem c_ge : cmpT .ge (.int i) (.int j) R = R (decide (j ≤ i)) := propext ⟨fun ⟨_, hr, q⟩ => by cases hr; exact q, fun q => ⟨_, .ge i j, q⟩⟩
theorem c_eqx {x y : D} : cmpT .eq x y R = (x.ok 8 = true ∧ y.ok 8 = true ∧ R (eqv x y)) := propext ⟨fun ⟨_, hr, q⟩ => by cases hr with | eq _ _ h0 h1 => exact ⟨h0, h1, q⟩, fun q => ⟨_, .eq x y q.1 q.2.1, q.2.2⟩⟩
theorem c_nex {x y : D} : cmpT .ne x y R = (x.ok 8 = true ∧ y.ok 8 = true ∧ R (!eqv x y)) := propext ⟨fun ⟨_, hr, q⟩ => by cases hr with | ne _ _ h0 h1 => exact ⟨h0, h1, q⟩, fun q => ⟨_, .ne x y q.1 q.2.1, q.2.2⟩⟩
theorem eqv_int : eqv (.int i) (.int j) = decide (i = j) := by
  show (i == j) = _
  exact Bool.beq_eq_decide_eq i j
theorem c_eq : cmpT .eq (.int i) (.int j) R = R (decide (i = j)) := by
  rw [c_eqx, eqv_int]; simp [D.ok]
theorem c_ne : cmpT .ne (.int i) (.int j) R = R (decide (i ≠ j)) := by
  rw [c_nex, eqv_int]; simp [D.ok]
theorem c_in {x : D} {ds : List D} : cmpT .in_ x (.lst ds) R = (x.ok 8 = true ∧ D.ok 9 (.lst ds) = true ∧ R (ds.any fun y => eqv y x)) := propext ⟨fun ⟨_, hr, q⟩ => by cases hr with | in_ _ _ h0 h1 => exact ⟨h0, h1, q⟩, fun q => ⟨_, .in_ x ds q.1 q.2.1, q.2.2⟩⟩
theorem c_is {x : D} : cmpT .is_ x .none R = R x.isNone := propext ⟨fun ⟨_, hr, q⟩ => by cases hr; exact q, fun q => ⟨_, .is_ x, q⟩⟩
theorem c_isn {x : D} : cmpT .isn x .none R = R (!x.isNone) := propext ⟨fun ⟨_, hr, q⟩ => by cases hr; exact q, fun q => ⟨_, .isn x, q⟩⟩
theorem cond_bool {b : Bool} {x y : Prop} : condT (.bool b) x y = (if b = true then x else y) := by
  apply propext
  constructor
  · rintro ⟨c, e, h⟩
    cases e; exact h
  · intro h; exact ⟨b, rfl, h⟩
theorem not_bool {b : Bool} {Q : Bool → Prop} : notT (.bool b) Q = Q (!b) := by
  apply propext
  constructor
  · rintro ⟨c, e, h⟩
    cases e; exact h
  · intro h; exact ⟨b, rfl, h⟩
theorem i_lst {ds : List D} {k : Int} : idxT (.lst ds) (.int k) Q = (0 ≤ k ∧ k < 2 ^ 63 ∧ ∃ d, ds[k.toNat]? = some d ∧ Q d) := propext ⟨fun ⟨_, hr, q⟩ => by cases hr with | lst _ _ _ h0 h1 h2 => exact ⟨h0, h1, _, h2, q⟩, fun ⟨h0, h1, d, h2, q⟩ => ⟨_, .lst ds k d h0 h1 h2, q⟩⟩
theorem i_tup {ds : List D} {k : Int} : idxT (.tup ds) (.int k) Q = (0 ≤ k ∧ k < 2 ^ 63 ∧ ∃ d, ds[k.toNat]? = some d ∧ Q d) := propext ⟨fun ⟨_, hr, q⟩ => by cases hr with | tup _ _ _ h0 h1 h2 => exact ⟨h0, h1, _, h2, q⟩, fun ⟨h0, h1, d, h2, q⟩ => ⟨_, .tup ds k d h0 h1 h2, q⟩⟩
theorem i_ints {ns : List Int} {k : Int} : idxT (.lst (ns.map D.int)) (.int k) Q = (0 ≤ k ∧ k < 2 ^ 63 ∧ k < ns.length ∧ Q (.int (ns.getD k.toNat 0))) := by
  rw [i_lst]
  apply propext
  simp only [List.getElem?_map, Option.map_eq_some_iff]
  constructor
  · rintro ⟨h0, h1, d, ⟨i, hi, rfl⟩, q⟩
    have hk := (List.getElem?_eq_some_iff.mp hi).1
    refine ⟨h0, h1, by omega, ?_⟩
    simpa [List.getD, hi] using q
  · rintro ⟨h0, h1, h2, q⟩
    have hk : k.toNat < ns.length := by omega
    refine ⟨h0, h1, _, ⟨ns[k.toNat], List.getElem?_eq_getElem hk, rfl⟩, ?_⟩
    simpa [List.getD, List.getElem?_eq_getElem hk] using q
theorem f_len {ds : List D} : biT .len [.lst ds] Q = (ds.length ≤ 2 ^ 20 ∧ Q (.int ds.length)) := propext ⟨fun ⟨_, hr, q⟩ => by cases hr with | lenL _ h => exact ⟨h, q⟩, fun q => ⟨_, .lenL ds q.1, q.2⟩⟩
theorem f_lenT {ds : List D} : biT .len [.tup ds] Q = (ds.length ≤ 2 ^ 20 ∧ Q (.int ds.length)) := propext ⟨fun ⟨_, hr, q⟩ => by cases hr with | lenT _ h => exact ⟨h, q⟩, fun q => ⟨_, .lenT ds q.1, q.2⟩⟩
theorem bi_sum {ds : List D} {r : D} (h : BiR .sum ds r) : ∃ ns : List Int, ds = [.lst (ns.map D.int)] ∧ r = .int ns.sum := by cases h with | sum ns => exact ⟨ns, rfl, rfl⟩
theorem f_sum {ns : List Int} : biT .sum [.lst (ns.map D.int)] Q = Q (.int ns.sum) := by
  apply propext
  constructor
  · rintro ⟨r, hr, q⟩
    obtain ⟨ms, e, rfl⟩ := bi_sum hr
    have : ns = ms := List.map_inj_right (fun _ _ h => by cases h; rfl) |>.mp (D.lst.inj (List.cons.inj e).1)
    rw [this]; exact q
  · intro q; exact ⟨_, .sum ns, q⟩
theorem f_max2 : biT .max2 [.int i, .int j] Q = Q (.int (max i j)) := by
  have e : (if j > i then j else i) = max i j := by
    simp only [Int.max_def]
    split <;> split <;> omega
  rw [← e]
  exact propext ⟨fun ⟨_, hr, q⟩ => by cases hr; exact q, fun q => ⟨_, .max2 i j, q⟩⟩
theorem f_min2 : biT .min2 [.int i, .int j] Q = Q (.int (min i j)) := by
  have e : (if j < i then j else i) = min i j := by
    simp only [Int.min_def]
    split <;> split <;> omega
  rw [← e]
  exact propext ⟨fun ⟨_, hr, q⟩ => by cases hr; exact q, fun q => ⟨_, .min2 i j, q⟩⟩
theorem f_isint : biT .isint [.int i] Q = Q (.bool true) := propext ⟨fun ⟨_, hr, q⟩ => by cases hr; exact q, fun q => ⟨_, .isint _ (by simp), q⟩⟩
theorem f_isbool : biT .isbool [.int i] Q = Q (.bool false) := propext ⟨fun ⟨_, hr, q⟩ => by cases hr; exact q, fun q => ⟨_, .isbool _ (by simp), q⟩⟩
theorem f_islist {ds : List D} : biT .islist [.lst ds] Q = Q (.bool true) := propext ⟨fun ⟨_, hr, q⟩ => by cases hr; exact q, fun q => ⟨_, .islist _ (by simp), q⟩⟩
theorem f_istup {ds : List D} : biT .istuple [.tup ds] Q = Q (.bool true) := propext ⟨fun ⟨_, hr, q⟩ => by cases hr; exact q, fun q => ⟨_, .istuple _ (by simp), q⟩⟩
theorem i_0 {a : D} {l : List D} : idxT (.lst (a :: l)) (.int 0) Q = Q a := by rw [i_lst]; simp
theorem i_1 {a b : D} {l : List D} : idxT (.lst (a :: b :: l)) (.int 1) Q = Q b := by rw [i_lst]; simp
theorem t_0 {a : D} {l : List D} : idxT (.tup (a :: l)) (.int 0) Q = Q a := by rw [i_tup]; simp
theorem t_1 {a b : D} {l : List D} : idxT (.tup (a :: b :: l)) (.int 1) Q = Q b := by rw [i_tup]; simp
theorem keepS {σ : Sg} : (∀ b : Addr, σ b ≠ none → σ b ≠ none) = True := by simp
theorem q_val {x : D} {P : D → Prop} : (∃ d, MV.val x = .val d ∧ P d) = P x := propext ⟨fun ⟨_, e, p⟩ => by cases e; exact p, fun p => ⟨x, rfl, p⟩⟩
theorem q_mt {x : List D} {P : List D → Prop} : (∃ d, MV.mt x = .mt d ∧ P d) = P x := propext ⟨fun ⟨_, e, p⟩ => by cases e; exact p, fun p => ⟨x, rfl, p⟩⟩
theorem q_int {x : Int} {P : Int → Prop} : (∃ i, D.int x = .int i ∧ P i) = P x := propext ⟨fun ⟨_, e, p⟩ => by cases e; exact p, fun p => ⟨x, rfl, p⟩⟩
theorem q_lst {x : List D} {P : List D → Prop} : (∃ d, D.lst x = .lst d ∧ P d) = P x := propext ⟨fun ⟨_, e, p⟩ => by cases e; exact p, fun p => ⟨x, rfl, p⟩⟩
theorem q_tup {x : List D} {P : List D → Prop} : (∃ d, D.tup x = .tup d ∧ P d) = P x := propext ⟨fun ⟨_, e, p⟩ => by cases e; exact p, fun p => ⟨x, rfl, p⟩⟩
theorem q_li {x : List D} {k : Int} {P : List D → Int → Prop} : (∃ d i, D.lst x = .lst d ∧ D.int k = .int i ∧ P d i) = P x k := propext ⟨fun ⟨_, _, e, e', p⟩ => by cases e; cases e'; exact p, fun p => ⟨x, k, rfl, rfl, p⟩⟩
theorem q_ll {x y : List D} {P : List D → List D → Prop} : (∃ d i, D.lst x = .lst d ∧ D.lst y = .lst i ∧ P d i) = P x y := propext ⟨fun ⟨_, _, e, e', p⟩ => by cases e; cases e'; exact p, fun p => ⟨x, y, rfl, rfl, p⟩⟩
theorem q_one {x : List D} {P : List (List D) → Prop} : (∃ rows, SeqR 1 (.lst x) rows ∧ P rows) = P (x.map fun d => [d]) := propext ⟨fun ⟨_, e, p⟩ => by cases e with | one => exact p | many _ h => exact absurd rfl h, fun p => ⟨_, .one x rfl, p⟩⟩
theorem q_onet {x : List D} {P : List (List D) → Prop} : (∃ rows, SeqR 1 (.tup x) rows ∧ P rows) = P (x.map fun d => [d]) := propext ⟨fun ⟨_, e, p⟩ => by cases e with | tup => exact p, fun p => ⟨_, .tup x rfl, p⟩⟩
end
theorem fmod_nn {a b : Int} (h : 0 < b) : 0 ≤ a.fmod b := by
  rw [Int.fmod_eq_emod_of_nonneg a (by omega)]; exact Int.emod_nonneg a (by omega)
theorem fmod_ltt {a b : Int} (h : 0 < b) : a.fmod b < b := by
  rw [Int.fmod_eq_emod_of_nonneg a (by omega)]; exact Int.emod_lt_of_pos a h

/-- the law's numbers -/
def M.cell : List S :=
  [.iff (.cmp .lt (.var 1) (.bi .len [(.var 0)])) [.ret (.idx (.var 0) (.var 1))] [],
    .asg 2 (.bin .add (.bin .mul (.var 1) (.cst (.int 7919))) (.cst (.int 5))),
    .iff (.cmp .gt (.bi .len [(.var 0)]) (.cst (.int 0)))
      [.asg 2 (.bin .mod (.bin .add (.bin .mul (.idx (.var 0) (.bin .mod (.bin .mul (.var 1) (.cst (.int 7))) (.bi .len [(.var 0)]))) (.cst (.int 48271))) (.bin .mul (.var 1) (.cst (.int 7919)))) (.cst (.int 2147483647)))]
      [],
    .ret (.bin .mod (.bin .mul (.var 2) (.var 2)) (.cst (.int 2147483629)))]
def M.whole : List S := [.ret (.and_ (.bi .isint [(.var 0)]) (.not_ (.bi .isbool [(.var 0)])))]

def cellV (ns : List Int) (k : Int) : Int :=
  if k < ns.length then ns.getD k.toNat 0
  else
    let m := if 0 < (ns.length : Int) then (ns.getD ((k * 7).fmod ns.length).toNat 0 * 48271 + k * 7919).fmod 2147483647 else k * 7919 + 5
    (m * m).fmod 2147483629

theorem ms_cons {X : Cx} {n : Nat} {s : S} {ss : List S} {ρ : List MV} {σ : Sg} {Q : Fl → List MV → Sg → Prop} :
    mExecs X n (s :: ss) ρ σ Q = mExec X n s ρ σ fun fl ρ' σ' => match fl with | .next => mExecs X n ss ρ' σ' Q | .ret d => Q (.ret d) ρ' σ' := by rw [mExecs] <;> rfl
theorem ms_nil {X : Cx} {n : Nat} {ρ : List MV} {σ : Sg} {Q : Fl → List MV → Sg → Prop} : mExecs X n [] ρ σ Q = Q .next ρ σ := by rw [mExecs]
theorem map_headD (l : List D) : ((l.map fun d => [d]).map fun r => r.headD .none) = l := by
  rw [List.map_map]
  exact List.map_id l
theorem filter_all {α : Type} (l : List α) : l.filter (fun _ => true) = l := List.filter_eq_self.mpr (by simp)

section
variable {X : Cx} {n : Nat} {σ : Sg}
theorem cell_spec {ns : List Int} {k : Int} {Q : D → Sg → Prop} (hl : ns.length ≤ 63) (h0 : 0 ≤ k) (h1 : k ≤ 100000) (q : Q (.int (cellV ns k)) σ) :
    mExecs X n M.cell [.val (.lst (ns.map D.int)), .val (.int k), .unb] σ (fun fl _ σ' => (∀ b, σ b ≠ none → σ' b ≠ none) ∧ Q (flD fl) σ') := by
  simp only [M.cell, mExecs, mEvals, E.cst, E.var, E.bin, E.cmp, E.and_, E.not_, E.idx, E.bi, S.iff, S.asg, S.ret, q_val, b_add, b_mul, b_mod, c_lt, c_gt, f_len, cond_bool, i_ints, List.getD_cons_zero, List.getD_cons_succ, List.set_cons_zero, List.set_cons_succ, flD, keepS, true_and, decide_eq_true_eq, List.length_map]
  unfold cellV at q
  refine ⟨by omega, ?_⟩
  split at q
  · rename_i hk
    rw [if_pos hk]
    exact ⟨h0, by omega, hk, q⟩
  · rename_i hk
    rw [if_neg hk]
    refine ⟨.inr ⟨by omega, by omega⟩, by omega, ?_⟩
    by_cases hz : 0 < (ns.length : Int)
    · simp only [if_pos hz] at q ⊢
      have a0 := fmod_nn (a := k * 7) hz
      have a1 := fmod_ltt (a := k * 7) hz
      refine ⟨.inr ⟨by omega, by omega⟩, by omega, by omega, a0, by omega, a1, .inr ⟨by omega, by omega⟩, .inr ⟨by omega, by omega⟩, by omega, .inr ⟨?_, ?_⟩, by omega, q⟩
      · exact Int.le_trans (by omega) (fmod_nn (by omega))
      · exact Int.lt_trans (fmod_ltt (by omega)) (by omega)
    · simp only [if_neg hz] at q ⊢
      exact ⟨.inr ⟨by omega, by omega⟩, by omega, q⟩
theorem whole_spec {i : Int} {Q : D → Sg → Prop} (q : Q (.bool true) σ) : mExecs X n M.whole [.val (.int i)] σ (fun fl _ σ' => (∀ b, σ b ≠ none → σ' b ≠ none) ∧ Q (flD fl) σ') := by
  simp only [M.whole, mExecs, mEvals, E.cst, E.var, E.bin, E.cmp, E.and_, E.not_, E.idx, E.bi, S.iff, S.asg, S.ret, q_val, f_isint, f_isbool, cond_bool, List.getD_cons_zero, flD, keepS, true_and, if_true, not_bool]
  simpa using q

/-- what the laws' shared functions give -/
def HasCell (X : Cx) : Prop := ∀ {n : Nat} {σ : Sg} {ns : List Int} {k : Int} {Q : D → Sg → Prop}, ns.length ≤ 63 → 0 ≤ k → k ≤ 100000 → Q (.int (cellV ns k)) σ → CallSem X (n + 1) "_law_cell" [.lst (ns.map D.int), .int k] σ Q
def HasWhole (X : Cx) : Prop := ∀ {n : Nat} {σ : Sg} {i : Int} {Q : D → Sg → Prop}, Q (.bool true) σ → CallSem X (n + 1) "_law_whole" [.int i] σ Q
end
end Mine
set_option maxRecDepth 10000
namespace Mine
open PySem PyProof.Rows
mutual
/-- no truth values, no references -/
def D.plain : D → Bool
  | .none => true
  | .bool _ => false
  | .int _ => true
  | .str _ => true
  | .tup ds => D.plains ds
  | .lst ds => D.plains ds
  | .ref _ => false
def D.plains : List D → Bool
  | [] => true
  | d :: ds => D.plain d && D.plains ds
end
mutual
theorem eqv_eq : ∀ (a b : D), a.plain = true → b.plain = true → (PyData.eqv a.py b.py = true ↔ a = b)
  | .none, b, ha, hb => by cases b <;> simp [D.py, PyData.eqv, D.plain] at hb ⊢
  | .bool _, b, ha, hb => by simp [D.plain] at ha
  | .int i, b, ha, hb => by cases b <;> simp [D.py, PyData.eqv, D.plain] at hb ⊢
  | .str i, b, ha, hb => by cases b <;> simp [D.py, PyData.eqv, D.plain] at hb ⊢
  | .tup ds, b, ha, hb => by
    cases b <;> simp [D.py, PyData.eqv, D.plain] at ha hb ⊢
    exact eqvs_eq ds _ ha hb
  | .lst ds, b, ha, hb => by
    cases b <;> simp [D.py, PyData.eqv, D.plain] at ha hb ⊢
    exact eqvs_eq ds _ ha hb
  | .ref _, b, ha, hb => by simp [D.plain] at ha
theorem eqvs_eq : ∀ (as bs : List D), D.plains as = true → D.plains bs = true → (PyData.eqvAll (D.pys as) (D.pys bs) = true ↔ as = bs)
  | [], [], _, _ => by simp [D.pys, PyData.eqvAll]
  | [], _ :: _, _, _ => by simp [D.pys, PyData.eqvAll]
  | _ :: _, [], _, _ => by simp [D.pys, PyData.eqvAll]
  | a :: as, b :: bs, ha, hb => by
    simp only [D.plains, Bool.and_eq_true] at ha hb
    simp only [D.pys, PyData.eqvAll, Bool.and_eq_true, List.cons.injEq]
    rw [eqv_eq a b ha.1 hb.1, eqvs_eq as bs ha.2 hb.2]
end
theorem eqv_iff {a b : D} (ha : a.plain = true) (hb : b.plain = true) : eqv a b = true ↔ a = b := eqv_eq a b ha hb
theorem eqv_self {a : D} (ha : a.plain = true) : eqv a a = true := (eqv_iff ha ha).mpr rfl
theorem eqv_ne {a b : D} (ha : a.plain = true) (hb : b.plain = true) (h : a ≠ b) : eqv a b = false := by
  cases e : eqv a b with
  | false => rfl
  | true => exact absurd ((eqv_iff ha hb).mp e) h

theorem plains_all : ∀ {ds : List D}, (∀ d ∈ ds, d.plain = true) → D.plains ds = true
  | [], _ => by simp [D.plains]
  | d :: ds, h => by
    simp only [D.plains, Bool.and_eq_true]
    exact ⟨h d (by simp), plains_all fun x hx => h x (by simp [hx])⟩
theorem plains_ints (ns : List Int) : D.plains (ns.map D.int) = true := plains_all fun d hd => by
  obtain ⟨i, _, rfl⟩ := List.mem_map.mp hd
  simp [D.plain]
theorem plain_ints (ns : List Int) : (D.lst (ns.map D.int)).plain = true := by simp only [D.plain]; exact plains_ints ns
theorem ok_ints (n : Nat) (ns : List Int) : D.ok (n + 1) (.lst (ns.map D.int)) = true := by
  simp only [D.ok, List.all_eq_true]
  intro d hd
  obtain ⟨i, _, rfl⟩ := List.mem_map.mp hd
  cases n <;> rfl
theorem int_inj {ns ms : List Int} (h : ns.map D.int = ms.map D.int) : ns = ms := List.map_inj_right (fun _ _ h => by cases h; rfl) |>.mp h
theorem eqv_ints (ns ms : List Int) : eqv (.lst (ns.map D.int)) (.lst (ms.map D.int)) = decide (ns = ms) := by
  by_cases h : ns = ms
  · subst h; simp [eqv_self (plain_ints ns)]
  · rw [eqv_ne (plain_ints ns) (plain_ints ms) (fun e => h (int_inj (D.lst.inj e)))]
    simp [h]

theorem any_int (st : List Int) (b : Int) : ((st.map D.int).any fun y => eqv y (.int b)) = decide (b ∈ st) := by
  rw [Bool.eq_iff_iff]
  simp only [List.any_eq_true, List.mem_map, decide_eq_true_eq]
  constructor
  · rintro ⟨x, ⟨i, hi, rfl⟩, h⟩
    rw [eqv_int] at h
    simp only [decide_eq_true_eq] at h
    exact h ▸ hi
  · intro h
    exact ⟨.int b, ⟨b, h, rfl⟩, by rw [eqv_int]; simp⟩
end Mine
set_option maxRecDepth 10000
namespace Mine
open PySem PyProof.Rows
local macro_rules | `(tactic| walk_at "m1") => `(tactic| simp only [mEvals, mCond, E.cst, E.var, E.bin, E.neg, E.cmp, E.cmp2, E.and_, E.or_, E.not_, E.lst, E.tupE, E.idx, E.call, E.bi, E.borrow, L.disp, L.ofSeq, L.rep, L.upto, L.from_, L.comp, L.cat, L.borrow, It.seq, It.range, It.zip, It.enum, S.asg, S.asgM, S.unp, S.app, S.appPop, S.setI, S.iff, S.for_, S.ret, S.expr, S.pass, S.freeze, q_val, q_mt, q_int, q_lst, q_tup, q_li, q_ll, q_one, q_onet, b_add, b_sub, b_mul, b_div, b_mod, c_lt, c_le, c_gt, c_ge, c_eq, c_ne, cond_bool, not_bool, i_ints, f_len, f_lenT, f_sum, f_max2, f_min2, f_isint, f_isbool, f_islist,
  f_istup, keepS, setAll, flD, List.getD_cons_zero, List.getD_cons_succ, List.set_cons_zero, List.set_cons_succ, List.length_cons, List.length_nil, Nat.zero_add, List.length_map, true_and, and_true, decide_eq_true_eq, Bool.not_eq_true', decide_eq_false_iff_not, map_headD, ms_nil, if_true, if_false, reduceCtorEq, Bool.not_true, Bool.not_false, Bool.false_eq_true])

/-- what a candidate holds -/
def hold (hs : List Int) (c : Int) : Int := hs.getD c.toNat 0
section
variable {X : Cx} {n : Nat} {σ : Sg}

end
end Mine
set_option maxRecDepth 10000
namespace Mine
open PySem PyProof.Rows
theorem at_b {b : Bool} : (D.atom (.bool b) = true) = True := by simp [D.atom]
theorem at_i {i : Int} : (D.atom (.int i) = true) = True := by simp [D.atom]

local macro_rules | `(tactic| walk_at "m1") => `(tactic| simp only [mEvals, mCond, E.cst, E.var, E.bin, E.neg, E.cmp, E.cmp2, E.and_, E.or_, E.not_, E.lst, E.tupE, E.idx, E.call, E.bi, E.borrow, L.disp, L.ofSeq, L.rep, L.upto, L.from_, L.comp, L.cat, L.borrow, It.seq, It.range, It.zip, It.enum, S.asg, S.asgM, S.unp, S.app, S.appPop, S.setI, S.iff, S.for_, S.ret, S.expr, S.pass, S.freeze, q_val, q_mt, q_int, q_lst, q_tup, q_li, q_ll, q_one, q_onet, b_add, b_sub, b_mul, b_div, b_mod, c_lt, c_le, c_gt, c_ge, c_eq, c_ne, c_is, c_isn, cond_bool, not_bool, i_ints, i_0, i_1, t_0, t_1, f_len, f_lenT, f_sum, f_max2, f_min2, f_isint, f_isbool, f_islist,
  f_istup, keepS, setAll, frzAll, at_b, at_i, flD, List.getD_cons_zero, List.getD_cons_succ, List.set_cons_zero, List.set_cons_succ, List.length_cons, List.length_nil, Nat.zero_add, List.length_map, true_and, and_true, decide_eq_true_eq, Bool.not_eq_true', decide_eq_false_iff_not, map_headD, ms_nil, if_true, if_false, reduceCtorEq, Bool.not_true, Bool.not_false, Bool.false_eq_true])

theorem erase_map (l : List Int) (i : Nat) : (l.map D.int).eraseIdx i = (l.eraseIdx i).map D.int := by
  induction l generalizing i with
  | nil => rfl
  | cons a l ih =>
    cases i with
    | zero => rfl
    | succ i => simp [ih]
theorem erase_perm : ∀ (l : List Int) (i : Nat) (h : i < l.length), (l[i] :: l.eraseIdx i).Perm l
  | a :: l, 0, _ => .refl _
  | a :: l, i + 1, h => by
    have := erase_perm l i (by simpa using h)
    exact (List.Perm.swap _ _ _).trans (this.cons a)

/-- ballots as data -/
def dB (B : List (Int × List Int)) : List D := B.map fun b => .tup [.int b.1, .lst (b.2.map D.int)]
structure RowOk (k : Nat) (r : List Int) : Prop where
  nd : r.Nodup
  inn : ∀ c ∈ r, 0 ≤ c ∧ c < k
structure Bal (k : Nat) (B : List (Int × List Int)) : Prop where
  len : B.length ≤ 40
  wt : ∀ b ∈ B, 1 ≤ b.1 ∧ b.1 ≤ 1000000000
  row : ∀ b ∈ B, RowOk k b.2

theorem RowOk.len {k : Nat} {r : List Int} (h : RowOk k r) : r.length ≤ k := by
  have key : ∀ (k : Nat) (r : List Int), r.Nodup → (∀ c ∈ r, 0 ≤ c ∧ c < (k : Int)) → r.length ≤ k := by
    intro k
    induction k with
    | zero =>
      intro r _ hin
      cases r with
      | nil => simp
      | cons c r => have := hin c (by simp); omega
    | succ k ih =>
      intro r nd hin
      have h1 := ih (r.erase (k : Int)) (nd.erase _) fun c hc => by
        have hm := List.mem_of_mem_erase hc
        have := hin c hm
        have hne : c ≠ k := fun e => by
          subst e
          exact absurd hc (by rw [List.Nodup.mem_erase_iff nd]; simp)
        omega
      have h2 : r.length ≤ (r.erase (k : Int)).length + 1 := by
        rw [List.length_erase]
        split <;> omega
      omega
  exact key k r h.nd h.inn

def M.row_b : List S :=
  [.asg 3 (.bin .mod (.bin .add (.bin .mul (.var 3) (.cst (.int 48271))) (.cst (.int 11))) (.cst (.int 2147483647))),
    .iff (.borrow [2] (.cmp .ne (.var 2) (.lst (.disp []))))
      [.appPop 4 2 (.borrow [2] (.bin .mod (.bin .fdiv (.var 3) (.cst (.int 7))) (.bi .len [(.var 2)])))]
      []]
def M.row : List S :=
  [.asgM 2 (.ofSeq (.range (.var 1))),
    .asg 3 (.bin .add (.cst (.int 1)) (.bin .mod (.var 0) (.cst (.int 2147483646)))),
    .asgM 4 (.disp []),
    .for_ [5] (.range (.bin .mod (.var 3) (.bin .add (.var 1) (.cst (.int 2))))) M.row_b,
    .freeze 4,
    .ret (.var 4)]
def M.weight : List S :=
  [.ret (.bin .add (.cst (.int 1)) (.bin .mod (.var 0) (.idx (.lst (.disp [(.cst (.int 1)), (.cst (.int 4)), (.cst (.int 100)), (.cst (.int 1000000000))])) (.var 1))))]
def M.candidates : List S :=
  [.iff (.cmp .eq (.bin .mod (.bin .fdiv (.call "_law_cell" [(.var 0), (.cst (.int 0))]) (.cst (.int 6))) (.cst (.int 8))) (.cst (.int 1)))
      [.ret (.bin .add (.cst (.int 1)) (.bin .mod (.bin .fdiv (.call "_law_cell" [(.var 0), (.cst (.int 0))]) (.cst (.int 48))) (.cst (.int 12))))]
      [],
    .ret (.bin .add (.cst (.int 1)) (.bin .mod (.call "_law_cell" [(.var 0), (.cst (.int 0))]) (.cst (.int 6))))]

theorem i_four {a b c d k : Int} {Q : D → Prop} (h0 : 0 ≤ k) (h1 : k < 4) (q : ∀ m, (m = a ∨ m = b ∨ m = c ∨ m = d) → Q (.int m)) : idxT (.lst [.int a, .int b, .int c, .int d]) (.int k) Q := by
  rw [i_lst]
  refine ⟨h0, by omega, ?_⟩
  have : k = 0 ∨ k = 1 ∨ k = 2 ∨ k = 3 := by omega
  rcases this with rfl | rfl | rfl | rfl
  · exact ⟨_, rfl, q _ (.inl rfl)⟩
  · exact ⟨_, rfl, q _ (.inr (.inl rfl))⟩
  · exact ⟨_, rfl, q _ (.inr (.inr (.inl rfl)))⟩
  · exact ⟨_, rfl, q _ (.inr (.inr (.inr rfl)))⟩

section
variable {X : Cx} {n : Nat} {σ : Sg}

theorem weight_spec {c k : Int} {Q : D → Sg → Prop} (h0 : 0 ≤ k) (h1 : k < 4) (q : ∀ w, 1 ≤ w → w ≤ 1000000000 → Q (.int w) σ) :
    mExecs X n M.weight [.val (.int c), .val (.int k)] σ (fun fl _ σ' => (∀ b, σ b ≠ none → σ' b ≠ none) ∧ Q (flD fl) σ') := by
  simp only [M.weight]
  rw [ms_cons]
  walk_at "m1"
  refine ⟨by omega, i_four h0 h1 fun m hm => ?_⟩
  have hm0 : 0 < m ∧ m ≤ 1000000000 := by rcases hm with rfl | rfl | rfl | rfl <;> omega
  walk_at "m1"
  have a0 := fmod_nn (a := c) hm0.1
  have a1 := fmod_ltt (a := c) hm0.1
  exact ⟨by omega, q _ (by omega) (by omega)⟩

theorem candidates_spec (hC : HasCell X) {ns : List Int} {Q : D → Sg → Prop} (hl : ns.length ≤ 63) (q : ∀ k : Nat, 1 ≤ k → k ≤ 12 → Q (.int k) σ) :
    mExecs X (n + 1) M.candidates [.val (.lst (ns.map D.int))] σ (fun fl _ σ' => (∀ b, σ b ≠ none → σ' b ≠ none) ∧ Q (flD fl) σ') := by
  have fin : ∀ c : Int, 1 ≤ c → c ≤ 12 → Q (.int c) σ := fun c h0 h1 => by
    have := q c.toNat (by omega) (by omega)
    rwa [Int.toNat_of_nonneg (by omega)] at this
  simp only [M.candidates]
  rw [ms_cons]
  walk_at "m1"
  refine hC hl (by omega) (by omega) ?_
  walk_at "m1"
  refine ⟨by omega, ⟨by omega, by omega⟩, by omega, ?_⟩
  split
  · rw [ms_cons]
    walk_at "m1"
    refine hC hl (by omega) (by omega) ?_
    walk_at "m1"
    have a0 := fmod_nn (a := (cellV ns 0).fdiv 48) (b := 12) (by omega)
    have a1 := fmod_ltt (a := (cellV ns 0).fdiv 48) (b := 12) (by omega)
    exact ⟨by omega, ⟨by omega, by omega⟩, by omega, fin _ (by omega) (by omega)⟩
  · rw [ms_cons]
    walk_at "m1"
    refine hC hl (by omega) (by omega) ?_
    walk_at "m1"
    have a0 := fmod_nn (a := cellV ns 0) (b := 6) (by omega)
    have a1 := fmod_ltt (a := cellV ns 0) (b := 6) (by omega)
    exact ⟨by omega, fin _ (by omega) (by omega)⟩

theorem row_spec {c : Int} {k : Nat} {Q : D → Sg → Prop} (hk : k ≤ 100) (q : ∀ r, RowOk k r → Q (.lst (r.map D.int)) σ) :
    mExecs X n M.row [.val (.int c), .val (.int k), .unb, .unb, .unb, .unb] σ (fun fl _ σ' => (∀ b, σ b ≠ none → σ' b ≠ none) ∧ Q (flD fl) σ') := by
  simp only [M.row]
  rw [ms_cons]
  walk_at "m1"
  refine ⟨by omega, by omega, by simp; omega, ?_⟩
  have e : List.map (fun r => r.headD D.none) (List.map (fun (j : Nat) => [D.int (j : Int)]) (List.range (k : Int).toNat)) = ((List.range k).map fun (j : Nat) => (j : Int)).map D.int := by
    rw [List.map_map, List.map_map, Int.toNat_natCast]
    rfl
  rw [e]
  rw [ms_cons]
  walk_at "m1"
  refine ⟨by omega, ?_⟩
  rw [ms_cons]
  walk_at "m1"
  refine ⟨by omega, ?_⟩
  have s0 := fmod_nn (a := c) (b := 2147483646) (by omega)
  have s1 := fmod_ltt (a := c) (b := 2147483646) (by omega)
  rw [ms_cons]
  walk_at "m1"
  have t0 := fmod_nn (a := 1 + c.fmod 2147483646) (b := (k : Int) + 2) (by omega)
  have t1 := fmod_ltt (a := 1 + c.fmod 2147483646) (b := (k : Int) + 2) (by omega)
  refine ⟨by omega, by omega, by omega, ?_⟩
  have nd0 : ((List.range k).map fun (j : Nat) => (j : Int)).Nodup := by
    rw [List.nodup_iff_pairwise_ne, List.pairwise_map]
    exact (List.nodup_iff_pairwise_ne.mp List.nodup_range).imp fun h e => h (by omega)
  have in0 : ∀ x ∈ ((List.range k).map fun (j : Nat) => (j : Int)), 0 ≤ x ∧ x < (k : Int) := fun x hx => by
    obtain ⟨j, hj, rfl⟩ := List.mem_map.mp hx
    have := List.mem_range.mp hj
    omega
  refine for_inv (fun j ρ σ' => σ' = σ ∧ ∃ (s : Int) (a : MV) (row left : List Int), ρ = [.val (.int c), .val (.int k), .mt (left.map D.int), .val (.int s), .mt (row.map D.int), a] ∧ 0 ≤ s ∧ s < 2147483648 ∧ RowOk k (row ++ left)) ?_ ?_ ?_
  · exact ⟨rfl, _, .unb, [], _, rfl, by omega, by omega, by simpa using nd0, by simpa using in0⟩
  · rintro j hj ρ σ' ⟨rfl, s, a, row, left, rfl, hs0, hs1, hrow⟩
    have hlen := hrow.len
    simp only [List.length_append] at hlen
    simp only [List.getElem_map, M.row_b]
    rw [ms_cons]
    walk_at "m1"
    have u0 := fmod_nn (a := s * 48271 + 11) (b := 2147483647) (by omega)
    have u1 := fmod_ltt (a := s * 48271 + 11) (b := 2147483647) (by omega)
    refine ⟨.inr ⟨by omega, by omega⟩, by omega, ?_⟩
    rw [ms_cons]
    walk_at "m1"
    have e2 := eqv_ints left []
    simp only [List.map_nil] at e2
    simp only [c_nex, e2]
    refine ⟨by omega, ok_ints 7 left, rfl, ?_⟩
    simp only [Bool.not_eq_true', decide_eq_false_iff_not]
    split
    · rename_i hne
      have hpos : 0 < left.length := List.length_pos_iff.mpr hne
      rw [ms_cons]
      walk_at "m1"
      refine ⟨row.map D.int, left.map D.int, by omega, rfl, rfl, by simp; omega, by simp; omega, ?_⟩
      refine ⟨by omega, ⟨by omega, by omega⟩, by omega, by omega, ?_⟩
      generalize hi : ((s * 48271 + 11).fmod 2147483647).fdiv 7 = v
      have v0 := fmod_nn (a := v) (b := (left.length : Int)) (by omega)
      have v1 := fmod_ltt (a := v) (b := (left.length : Int)) (by omega)
      have hlt : (v.fmod left.length).toNat < left.length := by omega
      refine ⟨_, .int (left[(v.fmod left.length).toNat]), rfl, v0, by simp [hlt], ?_⟩
      have e3 : (left.map D.int).eraseIdx (v.fmod left.length).toNat = (left.eraseIdx (v.fmod left.length).toNat).map D.int := erase_map _ _
      have e4 : row.map D.int ++ [.int left[(v.fmod left.length).toNat]] = (row ++ [left[(v.fmod left.length).toNat]]).map D.int := by simp
      rw [e3, e4]
      refine ⟨_, _, row ++ [left[(v.fmod left.length).toNat]], left.eraseIdx (v.fmod left.length).toNat, rfl, u0, by omega, ?_⟩
      · have hp : (row ++ [left[(v.fmod left.length).toNat]] ++ left.eraseIdx (v.fmod left.length).toNat).Perm (row ++ left) := by
          rw [List.append_assoc]
          exact List.Perm.append_left _ (erase_perm _ _ hlt)
        exact ⟨hp.nodup_iff.mpr hrow.nd, fun x hx => hrow.inn x (hp.mem_iff.mp hx)⟩
    · exact ⟨_, _, row, left, rfl, u0, by omega, hrow⟩
  · rintro ρ σ' ⟨rfl, s, a, row, left, rfl, hs0, hs1, hrow⟩
    rw [ms_cons]
    walk_at "m1"
    rw [ms_cons]
    walk_at "m1"
    exact q row ⟨(List.nodup_append.mp hrow.nd).1, fun x hx => hrow.inn x (by simp [hx])⟩
end
end Mine
set_option maxRecDepth 10000
namespace Mine
open PySem PyProof.Rows
local macro_rules | `(tactic| walk_at "m1") => `(tactic| simp only [mEvals, mCond, E.cst, E.var, E.bin, E.neg, E.cmp, E.cmp2, E.and_, E.or_, E.not_, E.lst, E.tupE, E.idx, E.call, E.bi, E.borrow, L.disp, L.ofSeq, L.rep, L.upto, L.from_, L.comp, L.cat, L.borrow, It.seq, It.range, It.zip, It.enum, S.asg, S.asgM, S.unp, S.app, S.appPop, S.setI, S.iff, S.for_, S.ret, S.expr, S.pass, S.freeze, q_val, q_mt, q_int, q_lst, q_tup, q_li, q_ll, q_one, q_onet, b_add, b_sub, b_mul, b_div, b_mod, c_lt, c_le, c_gt, c_ge, c_eq, c_ne, c_is, c_isn, cond_bool, not_bool, i_ints, i_0, i_1, t_0, t_1, f_len, f_lenT, f_sum, f_max2, f_min2, f_isint, f_isbool, f_islist,
  f_istup, keepS, setAll, frzAll, at_b, at_i, flD, List.getD_cons_zero, List.getD_cons_succ, List.set_cons_zero, List.set_cons_succ, List.length_cons, List.length_nil, Nat.zero_add, List.length_map, true_and, and_true, decide_eq_true_eq, Bool.not_eq_true', decide_eq_false_iff_not, map_headD, ms_nil, if_true, if_false, reduceCtorEq, Bool.not_true, Bool.not_false, Bool.false_eq_true])

def HasWeight (X : Cx) : Prop := ∀ {n : Nat} {σ : Sg} {c k : Int} {Q : D → Sg → Prop}, 0 ≤ k → k < 4 → (∀ w, 1 ≤ w → w ≤ 1000000000 → Q (.int w) σ) → CallSem X (n + 1) "_law_weight" [.int c, .int k] σ Q
def HasRow (X : Cx) : Prop := ∀ {n : Nat} {σ : Sg} {c : Int} {k : Nat} {Q : D → Sg → Prop}, k ≤ 100 → (∀ r, RowOk k r → Q (.lst (r.map D.int)) σ) → CallSem X (n + 1) "_law_row" [.int c, .int k] σ Q

def M.bal_p : E := (.cmp .ne (.lst (.disp [(.var 8)])) (.lst (.upto (.idx (.idx (.var 4) (.cst (.int 0))) (.cst (.int 1))) (.cst (.int 1)))))
def M.bal_e : E := (.var 8)
def M.bal_b : List S :=
  [.asg 6 (.call "_law_weight" [(.call "_law_cell" [(.var 0), (.bin .add (.cst (.int 6)) (.bin .mul (.cst (.int 2)) (.var 5)))]), (.var 3)]),
    .asg 7 (.call "_law_row" [(.call "_law_cell" [(.var 0), (.bin .add (.cst (.int 7)) (.bin .mul (.cst (.int 2)) (.var 5)))]), (.var 1)]),
    .iff (.borrow [4] (.and_ (.cmp .eq (.bin .mod (.call "_law_cell" [(.var 0), (.cst (.int 3))]) (.cst (.int 5))) (.cst (.int 1))) (.and_ (.cmp .gt (.bi .len [(.var 4)]) (.cst (.int 0))) (.cmp .gt (.bi .len [(.var 7)]) (.cst (.int 1))))))
      [.asgM 7 (.borrow [4] (.cat (.lst (.upto (.idx (.idx (.var 4) (.cst (.int 0))) (.cst (.int 1))) (.cst (.int 1)))) (.lst (.comp M.bal_e [8] (.seq (.var 7)) (some M.bal_p))))),
      .freeze 7]
      [],
    .app 4 (.tupE [(.var 6), (.var 7)])]
def M.ballots : List S :=
  [.asg 2 (.bin .mod (.call "_law_cell" [(.var 0), (.cst (.int 1))]) (.cst (.int 9))),
    .iff (.cmp .eq (.bin .mod (.bin .fdiv (.call "_law_cell" [(.var 0), (.cst (.int 1))]) (.cst (.int 9))) (.cst (.int 8))) (.cst (.int 1)))
      [.asg 2 (.bin .mod (.bin .fdiv (.call "_law_cell" [(.var 0), (.cst (.int 1))]) (.cst (.int 72))) (.cst (.int 41)))]
      [],
    .asg 3 (.bin .mod (.call "_law_cell" [(.var 0), (.cst (.int 2))]) (.cst (.int 4))),
    .asgM 4 (.disp []),
    .for_ [5] (.range (.var 2)) M.bal_b,
    .freeze 4,
    .ret (.var 4)]
section
variable {X : Cx} {n : Nat} {σ : Sg}

theorem mixed {k : Nat} {r0 r : List Int} (h0 : RowOk k r0) (h : RowOk k r) : RowOk k (r0.take 1 ++ r.filter fun c => decide (¬ [c] = r0.take 1)) := by
  cases r0 with
  | nil =>
    refine ⟨?_, fun c hc => ?_⟩
    · simp only [List.take_nil, List.nil_append]
      exact h.nd.filter _
    · simp only [List.take_nil, List.nil_append, List.mem_filter] at hc
      exact h.inn c hc.1
  | cons a r0 =>
    refine ⟨?_, fun c hc => ?_⟩
    · simp only [List.take_succ_cons, List.take_zero, List.singleton_append, List.nodup_cons, List.mem_filter]
      exact ⟨by simp, h.nd.filter _⟩
    · simp only [List.take_succ_cons, List.take_zero, List.singleton_append, List.mem_cons, List.mem_filter] at hc
      rcases hc with rfl | hc
      · exact h0.inn _ (by simp)
      · exact h.inn c hc.1

theorem bal_turn (hC : HasCell X) (hW : HasWeight X) (hR : HasRow X) {ns : List Int} {k : Nat} {many kind : Int} {B : List (Int × List Int)} {j : Nat} {a6 a7 : MV} {Q : Fl → List MV → Sg → Prop} (hl : ns.length ≤ 63) (hk : k ≤ 100) (hj : j ≤ 100) (h0 : 0 ≤ kind) (h1 : kind < 4)
    (hB : B.length ≤ 100) (hrow : ∀ b ∈ B, RowOk k b.2) (q : ∀ w r, 1 ≤ w → w ≤ 1000000000 → RowOk k r → Q .next [.val (.lst (ns.map D.int)), .val (.int k), .val (.int many), .val (.int kind), .mt (dB (B ++ [(w, r)])), .val (.int j), .val (.int w), .val (.lst (r.map D.int)), .unb] σ) :
    mExecs X (n + 1) M.bal_b [.val (.lst (ns.map D.int)), .val (.int k), .val (.int many), .val (.int kind), .mt (dB B), .val (.int j), a6, a7, .unb] σ Q := by
  simp only [M.bal_b]
  rw [ms_cons]
  walk_at "m1"
  refine ⟨.inl ⟨by omega, by omega⟩, hC hl (by omega) (by omega) (hW h0 h1 fun w hw0 hw1 => ?_)⟩
  rw [ms_cons]
  walk_at "m1"
  refine ⟨.inl ⟨by omega, by omega⟩, hC hl (by omega) (by omega) (hR hk fun r hr => ?_)⟩
  have hrl := hr.len
  have last : ∀ r' : List Int, RowOk k r' → mExecs X (n + 1) [.app 4 (.tupE [(.var 6), (.var 7)])] [.val (.lst (ns.map D.int)), .val (.int k), .val (.int many), .val (.int kind), .mt (dB B), .val (.int j), .val (.int w), .val (.lst (r'.map D.int)), .unb] σ Q := by
    intro r' hr'
    rw [ms_cons]
    walk_at "m1"
    refine ⟨by simp [dB]; omega, by omega, ?_⟩
    have e : dB B ++ [D.tup [.int w, .lst (r'.map D.int)]] = dB (B ++ [(w, r')]) := by simp [dB]
    rw [e]
    exact q w r' hw0 hw1 hr'
  rw [ms_cons]
  walk_at "m1"
  refine hC hl (by omega) (by omega) ?_
  walk_at "m1"
  refine ⟨by omega, ?_⟩
  have hdl : (dB B).length = B.length := by simp [dB]
  split
  · refine ⟨by omega, ?_⟩
    rw [hdl]
    split
    · rename_i hpos
      refine ⟨by omega, ?_⟩
      split
      · cases B with
        | nil => simp at hpos
        | cons b0 B =>
          have hr0 := hrow b0 (by simp)
          rw [ms_cons]
          walk_at "m1"
          have e0 : dB (b0 :: B) = .tup [.int b0.1, .lst (b0.2.map D.int)] :: dB B := by simp [dB]
          rw [e0]
          walk_at "m1"
          have hr0l := hr0.len
          have hmix := mixed hr0 hr
          refine ⟨by omega, by omega, by omega, ?_⟩
          refine comp_map (fun x => match x with | [.int c] => decide (¬ [c] = b0.2.take 1) | _ => false) (fun x => match x with | [d] => d | _ => .none) (fun x hx K hK => ?_) (fun x hx _ K hK => ?_) ?_
          · simp only [List.map_map, List.mem_map] at hx
            obtain ⟨c, hc, rfl⟩ := hx
            simp only [M.bal_p, Function.comp] at hK ⊢
            walk_at "m1"
            have e1 : List.take (Int.toNat 1) (b0.2.map D.int) = (b0.2.take 1).map D.int := by rw [← List.map_take]; rfl
            have e2 := eqv_ints [c] (b0.2.take 1)
            simp only [List.map_cons, List.map_nil] at e2
            rw [e1]
            simp only [c_nex, e2]
            refine ⟨by omega, by omega, by omega, ok_ints 7 [c], ok_ints 7 _, ?_⟩
            rw [← decide_not]
            exact hK
          · simp only [List.map_map, List.mem_map] at hx
            obtain ⟨c, hc, rfl⟩ := hx
            simp only [M.bal_e, Function.comp] at hK ⊢
            walk_at "m1"
            exact hK
          · have e : List.take (Int.toNat 1) (b0.2.map D.int) ++ List.map (fun x => match x with | [d] => d | _ => D.none) (List.filter (fun x => match x with | [.int c] => decide (¬ [c] = b0.2.take 1) | _ => false) ((r.map D.int).map fun d => [d])) =
                (b0.2.take 1 ++ r.filter fun c => decide (¬ [c] = b0.2.take 1)).map D.int := by
              rw [List.map_map, List.filter_map, List.map_map, List.map_append, List.map_take]
              rfl
            rw [e]
            refine ⟨?_, ?_, ?_⟩
            · have := hmix.len
              simp only [List.length_map]; omega
            · simp only [List.all_map, List.all_eq_true]
              intro x _; rfl
            · rw [ms_cons]
              walk_at "m1"
              rw [e0] at last
              exact last _ hmix
      · exact last r hr
    · exact last r hr
  · exact last r hr

theorem ballots_spec (hC : HasCell X) (hW : HasWeight X) (hR : HasRow X) {ns : List Int} {k : Nat} {Q : D → Sg → Prop} (hl : ns.length ≤ 63) (hk : k ≤ 100) (q : ∀ B, Bal k B → Q (.lst (dB B)) σ) :
    mExecs X (n + 1) M.ballots [.val (.lst (ns.map D.int)), .val (.int k), .unb, .unb, .unb, .unb, .unb, .unb, .unb] σ (fun fl _ σ' => (∀ b, σ b ≠ none → σ' b ≠ none) ∧ Q (flD fl) σ') := by
  have rest : ∀ many : Int, 0 ≤ many → many ≤ 40 → mExecs X (n + 1) (M.ballots.drop 2) [.val (.lst (ns.map D.int)), .val (.int k), .val (.int many), .unb, .unb, .unb, .unb, .unb, .unb] σ (fun fl _ σ' => (∀ b, σ b ≠ none → σ' b ≠ none) ∧ Q (flD fl) σ') := by
    intro many m0 m1
    simp only [M.ballots, List.drop_succ_cons, List.drop_zero]
    rw [ms_cons]
    walk_at "m1"
    refine hC hl (by omega) (by omega) ?_
    walk_at "m1"
    have k0 := fmod_nn (a := cellV ns 2) (b := 4) (by omega)
    have k1 := fmod_ltt (a := cellV ns 2) (b := 4) (by omega)
    refine ⟨by omega, ?_⟩
    rw [ms_cons]
    walk_at "m1"
    refine ⟨by omega, ?_⟩
    rw [ms_cons]
    walk_at "m1"
    refine ⟨by omega, by omega, ?_⟩
    refine for_inv (fun j ρ σ' => σ' = σ ∧ ∃ (a5 a6 a7 : MV) (B : List (Int × List Int)), ρ = [.val (.lst (ns.map D.int)), .val (.int k), .val (.int many), .val (.int ((cellV ns 2).fmod 4)), .mt (dB B), a5, a6, a7, .unb] ∧ B.length = j ∧ (∀ b ∈ B, 1 ≤ b.1 ∧ b.1 ≤ 1000000000) ∧ ∀ b ∈ B, RowOk k b.2) ?_ ?_ ?_
    · exact ⟨rfl, .unb, .unb, .unb, [], rfl, rfl, by simp, by simp⟩
    · rintro j hj ρ σ' ⟨rfl, a5, a6, a7, B, rfl, hlen, hwt, hrow⟩
      simp only [List.length_map, List.length_range] at hj
      simp only [List.getElem_map, List.getElem_range, setAll, List.set_cons_zero, List.set_cons_succ]
      refine bal_turn hC hW hR hl hk (by omega) k0 k1 (by omega) hrow fun w r h0 h1 hr => ?_
      refine ⟨rfl, _, _, _, B ++ [(w, r)], rfl, by simp [hlen], fun b hb => ?_, fun b hb => ?_⟩
      · rcases List.mem_append.mp hb with hb | hb
        · exact hwt b hb
        · rw [List.mem_singleton.mp hb]; exact ⟨h0, h1⟩
      · rcases List.mem_append.mp hb with hb | hb
        · exact hrow b hb
        · rw [List.mem_singleton.mp hb]; exact hr
    · rintro ρ σ' ⟨rfl, a5, a6, a7, B, rfl, hlen, hwt, hrow⟩
      simp only [List.length_map, List.length_range] at hlen
      rw [ms_cons]
      walk_at "m1"
      rw [ms_cons]
      walk_at "m1"
      exact q B ⟨by omega, hwt, hrow⟩
  simp only [M.ballots, List.drop_succ_cons, List.drop_zero] at rest
  simp only [M.ballots]
  rw [ms_cons]
  walk_at "m1"
  refine hC hl (by omega) (by omega) ?_
  walk_at "m1"
  refine ⟨by omega, ?_⟩
  rw [ms_cons]
  walk_at "m1"
  refine hC hl (by omega) (by omega) ?_
  walk_at "m1"
  refine ⟨by omega, ⟨by omega, by omega⟩, by omega, ?_⟩
  split
  · rw [ms_cons]
    walk_at "m1"
    refine hC hl (by omega) (by omega) ?_
    walk_at "m1"
    refine ⟨by omega, ⟨by omega, by omega⟩, by omega, ?_⟩
    exact rest _ (fmod_nn (by omega)) (Int.le_of_lt_add_one (fmod_ltt (by omega)))
  · exact rest _ (fmod_nn (by omega)) (by have := fmod_ltt (a := cellV ns 1) (b := 9) (by omega); omega)

theorem rows2 {B : List (Int × List Int)} {P : List (List D) → Prop} (h : P (B.map fun b => [.int b.1, .lst (b.2.map D.int)])) : ∃ rows, SeqR 2 (.lst (dB B)) rows ∧ P rows := by
  have e : dB B = (B.map fun b => [.int b.1, .lst (b.2.map D.int)]).map D.tup := by simp [dB, List.map_map, Function.comp]
  rw [e]
  refine ⟨_, .many _ (by decide) ?_, h⟩
  intro r hr
  obtain ⟨b, _, rfl⟩ := List.mem_map.mp hr
  rfl

end
end Mine
set_option maxRecDepth 10000
namespace Mine
open PySem PyProof.Rows
local macro_rules | `(tactic| walk_at "m1") => `(tactic| simp only [mEvals, mCond, E.cst, E.var, E.bin, E.neg, E.cmp, E.cmp2, E.and_, E.or_, E.not_, E.lst, E.tupE, E.idx, E.call, E.bi, E.borrow, L.disp, L.ofSeq, L.rep, L.upto, L.from_, L.comp, L.cat, L.borrow, It.seq, It.range, It.zip, It.enum, S.asg, S.asgM, S.unp, S.app, S.appPop, S.setI, S.iff, S.for_, S.ret, S.expr, S.pass, S.freeze, q_val, q_mt, q_int, q_lst, q_tup, q_li, q_ll, q_one, q_onet, b_add, b_sub, b_mul, b_div, b_mod, c_lt, c_le, c_gt, c_ge, c_eq, c_ne, c_is, c_isn, cond_bool, not_bool, i_ints, i_0, i_1, t_0, t_1, f_len, f_lenT, f_sum, f_max2, f_min2, f_isint, f_isbool, f_islist,
  f_istup, keepS, setAll, frzAll, at_b, at_i, flD, List.getD_cons_zero, List.getD_cons_succ, List.set_cons_zero, List.set_cons_succ, List.length_cons, List.length_nil, Nat.zero_add, List.length_map, true_and, and_true, decide_eq_true_eq, Bool.not_eq_true', decide_eq_false_iff_not, map_headD, ms_nil, if_true, if_false, reduceCtorEq, Bool.not_true, Bool.not_false, Bool.false_eq_true])

section
variable {X : Cx} {n : Nat} {σ : Sg}
def HasCand (X : Cx) : Prop := ∀ {n : Nat} {σ : Sg} {ns : List Int} {Q : D → Sg → Prop}, ns.length ≤ 63 → (∀ k : Nat, 1 ≤ k → k ≤ 12 → Q (.int k) σ) → CallSem X (n + 1 + 1) "_law_candidates" [.lst (ns.map D.int)] σ Q
def HasBal (X : Cx) : Prop := ∀ {n : Nat} {σ : Sg} {ns : List Int} {k : Nat} {Q : D → Sg → Prop}, ns.length ≤ 63 → k ≤ 100 → (∀ B, Bal k B → Q (.lst (dB B)) σ) → CallSem X (n + 1 + 1) "_law_ballots" [.lst (ns.map D.int), .int k] σ Q
end
end Mine
set_option maxRecDepth 10000
namespace Mine
open PySem PyProof.Rows
local macro_rules | `(tactic| walk_at "m1") => `(tactic| simp only [mEvals, mCond, E.cst, E.var, E.bin, E.neg, E.cmp, E.cmp2, E.and_, E.or_, E.not_, E.lst, E.tupE, E.idx, E.call, E.bi, E.borrow, L.disp, L.ofSeq, L.rep, L.upto, L.from_, L.comp, L.cat, L.borrow, It.seq, It.range, It.zip, It.enum, S.asg, S.asgM, S.unp, S.app, S.appPop, S.setI, S.iff, S.for_, S.ret, S.expr, S.pass, S.freeze, q_val, q_mt, q_int, q_lst, q_tup, q_li, q_ll, q_one, q_onet, b_add, b_sub, b_mul, b_div, b_mod, c_lt, c_le, c_gt, c_ge, c_eq, c_ne, c_is, c_isn, cond_bool, not_bool, i_ints, i_0, i_1, t_0, t_1, f_len, f_lenT, f_sum, f_max2, f_min2, f_isint, f_isbool, f_islist,
  f_istup, keepS, setAll, frzAll, at_b, at_i, flD, List.getD_cons_zero, List.getD_cons_succ, List.set_cons_zero, List.set_cons_succ, List.length_cons, List.length_nil, Nat.zero_add, List.length_map, true_and, and_true, decide_eq_true_eq, Bool.not_eq_true', decide_eq_false_iff_not, map_headD, ms_nil, if_true, if_false, reduceCtorEq, Bool.not_true, Bool.not_false, Bool.false_eq_true])

/-- a place: a candidate, or none -/
def dO : Option Int → D
  | none => .none
  | some c => .int c
def placeV (row st : List Int) : Option Int := row.find? fun c => decide (c ∈ st)

theorem find_at {p : Int → Bool} : ∀ {row : List Int} {j : Nat} (hj : j < row.length), (∀ x ∈ row.take j, p x = false) → p row[j] = true → row.find? p = some row[j]
  | a :: row, 0, _, _, h => by
    simp only [List.getElem_cons_zero] at h ⊢
    simp [List.find?, h]
  | a :: row, j + 1, hj, hx, h => by
    have ha : p a = false := hx a (by simp)
    have hj' : j < row.length := by simpa using hj
    simp only [List.getElem_cons_succ] at h ⊢
    simp only [List.find?_cons, ha]
    exact find_at hj' (fun x hx' => hx x (by simp [hx'])) h
theorem find_not {p : Int → Bool} {row : List Int} (h : ∀ x ∈ row, p x = false) : row.find? p = none := by
  rw [List.find?_eq_none]
  intro x hx
  simp [h x hx]
theorem placeV_in {row st : List Int} {c : Int} (h : placeV row st = some c) : c ∈ row ∧ c ∈ st := by
  have h1 := List.mem_of_find?_eq_some h
  have h2 := List.find?_some h
  exact ⟨h1, by simpa using h2⟩

def M.place_b : List S := [.iff (.cmp .in_ (.var 2) (.var 1)) [.ret (.var 2)] []]
def M.place : List S := [.for_ [2] (.seq (.var 0)) M.place_b, .ret (.cst .none)]
def M.held_b : List S := [.iff (.cmp .isn (.var 4) (.cst .none)) [.setI 3 (.var 4) (.borrow [3] (.bin .add (.idx (.var 3) (.var 4)) (.var 5)))] []]
def M.held : List S := [.asgM 3 (.rep (.cst (.int 0)) (.var 0)), .for_ [4, 5] (.zip (.var 1) (.var 2)) M.held_b, .freeze 3, .ret (.var 3)]

def heldT (acc : List Int) (p : Option Int × Int) : List Int := match p.1 with
  | none => acc
  | some c => acc.set c.toNat (acc.getD c.toNat 0 + p.2)
def heldL (k : Nat) (pl : List (Option Int × Int)) : List Int := pl.foldl heldT (List.replicate k 0)
theorem heldT_len (acc : List Int) (p : Option Int × Int) : (heldT acc p).length = acc.length := by
  unfold heldT
  split <;> simp
theorem heldL_len (k : Nat) (pl : List (Option Int × Int)) : (heldL k pl).length = k := by
  unfold heldL
  have : ∀ (pl : List (Option Int × Int)) (acc : List Int), (pl.foldl heldT acc).length = acc.length := by
    intro pl
    induction pl with
    | nil => intro acc; rfl
    | cons p pl ih => intro acc; rw [List.foldl_cons, ih, heldT_len]
  rw [this]; simp
theorem heldL_take {k : Nat} {pl : List (Option Int × Int)} {j : Nat} (hj : j < pl.length) : heldL k (pl.take (j + 1)) = heldT (heldL k (pl.take j)) pl[j] := by
  unfold heldL
  rw [← List.take_append_getElem hj, List.foldl_append]
  rfl
theorem set_ints (l : List Int) (i : Nat) (v : Int) : (l.map D.int).set i (.int v) = (l.set i v).map D.int := by rw [List.map_set]

section
variable {X : Cx} {n : Nat} {σ : Sg}
theorem place_spec {row st : List Int} {Q : D → Sg → Prop} (q : Q (dO (placeV row st)) σ) :
    mExecs X n M.place [.val (.lst (row.map D.int)), .val (.lst (st.map D.int)), .unb] σ (fun fl _ σ' => (∀ b, σ b ≠ none → σ' b ≠ none) ∧ Q (flD fl) σ') := by
  simp only [M.place]
  rw [ms_cons]
  walk_at "m1"
  refine for_inv (fun j ρ σ' => σ' = σ ∧ ∃ (a : MV), ρ = [.val (.lst (row.map D.int)), .val (.lst (st.map D.int)), a] ∧ ∀ x ∈ row.take j, decide (x ∈ st) = false) ?_ ?_ ?_
  · exact ⟨rfl, .unb, rfl, by simp⟩
  · rintro j hj ρ σ' ⟨rfl, a, rfl, hx⟩
    simp only [List.length_map] at hj
    simp only [List.getElem_map, M.place_b]
    rw [ms_cons]
    walk_at "m1"
    simp only [c_in, any_int, cond_bool]
    refine ⟨rfl, ok_ints 8 st, ?_⟩
    by_cases h : row[j] ∈ st
    · simp only [h, decide_true, if_true]
      rw [ms_cons]
      walk_at "m1"
      have : placeV row st = some row[j] := find_at hj hx (by simpa using h)
      rw [this] at q
      exact q
    · simp only [h, decide_false, Bool.false_eq_true, if_false, ms_nil]
      refine ⟨_, rfl, fun x hx' => ?_⟩
      rw [← List.take_append_getElem hj] at hx'
      rcases List.mem_append.mp hx' with hx' | hx'
      · simpa using hx x hx'
      · rw [List.mem_singleton.mp hx']; exact h
  · rintro ρ σ' ⟨rfl, a, rfl, hx⟩
    simp only [List.length_map, List.take_length] at hx
    rw [ms_cons]
    walk_at "m1"
    have : placeV row st = none := find_not hx
    rw [this] at q
    exact q
def HasPlace (X : Cx) : Prop := ∀ {n : Nat} {σ : Sg} {row st : List Int} {Q : D → Sg → Prop}, Q (dO (placeV row st)) σ → CallSem X (n + 1) "place_of" [.lst (row.map D.int), .lst (st.map D.int)] σ Q

theorem held_spec {k : Nat} {ps : List (Option Int)} {ls : List Int} {Q : D → Sg → Prop} (hk : k ≤ 1000) (hin : ∀ p ∈ ps, ∀ c, p = some c → 0 ≤ c ∧ c < (k : Int)) (q : Q (.lst ((heldL k (ps.zip ls)).map D.int)) σ) :
    mExecs X n M.held [.val (.int k), .val (.lst (ps.map dO)), .val (.lst (ls.map D.int)), .unb, .unb, .unb] σ (fun fl _ σ' => (∀ b, σ b ≠ none → σ' b ≠ none) ∧ Q (flD fl) σ') := by
  simp only [M.held]
  rw [ms_cons]
  walk_at "m1"
  refine ⟨by omega, by omega, ?_⟩
  have e0 : List.replicate (k : Int).toNat (D.int 0) = (heldL k []).map D.int := by simp [heldL]
  rw [e0]
  rw [ms_cons]
  walk_at "m1"
  have e1 : (List.map (fun p => [p.1, p.2]) ((ps.map dO).zip (ls.map D.int))) = (ps.zip ls).map fun p => [dO p.1, .int p.2] := by
    rw [List.zip_map, List.map_map]; rfl
  rw [e1]
  refine for_inv (fun j ρ σ' => σ' = σ ∧ ∃ (a b : MV), ρ = [.val (.int k), .val (.lst (ps.map dO)), .val (.lst (ls.map D.int)), .mt ((heldL k ((ps.zip ls).take j)).map D.int), a, b]) ?_ ?_ ?_
  · exact ⟨rfl, .unb, .unb, rfl⟩
  · rintro j hj ρ σ' ⟨rfl, a, b, rfl⟩
    simp only [List.length_map] at hj
    simp only [List.getElem_map, M.held_b]
    rw [heldL_take hj]
    have hlen := heldL_len k ((ps.zip ls).take j)
    generalize heldL k ((ps.zip ls).take j) = acc at hlen
    have hmem := (List.of_mem_zip (show ((ps.zip ls)[j].1, (ps.zip ls)[j].2) ∈ ps.zip ls from List.getElem_mem hj)).1
    generalize (ps.zip ls)[j] = p at hmem
    obtain ⟨p, w⟩ := p
    rw [ms_cons]
    walk_at "m1"
    cases p with
    | none =>
      simp only [dO, D.isNone]
      exact ⟨_, _, rfl⟩
    | some c =>
      have hc := hin _ hmem c rfl
      simp only [dO, D.isNone]
      rw [if_pos trivial]
      rw [ms_cons]
      walk_at "m1"
      refine ⟨by omega, ⟨hc.1, by omega, by omega, hc.1, by omega, ?_⟩⟩
      rw [set_ints]
      exact ⟨_, _, rfl⟩
  · rintro ρ σ' ⟨rfl, a, b, rfl⟩
    rw [List.length_map, List.take_length]
    rw [ms_cons]
    walk_at "m1"
    rw [ms_cons]
    walk_at "m1"
    exact q
def HasHeld (X : Cx) : Prop := ∀ {n : Nat} {σ : Sg} {k : Nat} {ps : List (Option Int)} {ls : List Int} {Q : D → Sg → Prop}, k ≤ 1000 → (∀ p ∈ ps, ∀ c, p = some c → 0 ≤ c ∧ c < (k : Int)) → Q (.lst ((heldL k (ps.zip ls)).map D.int)) σ →
  CallSem X (n + 1) "held" [.int k, .lst (ps.map dO), .lst (ls.map D.int)] σ Q
end
end Mine
set_option maxRecDepth 100000
set_option maxHeartbeats 4000000
namespace Mine.L03
open PySem PyProof.Rows
abbrev P : Program := PySem.Challenge.pw_uf060016_03

def n_place_of : List Str := ["row", "standing", "wish"]
abbrev m_place_of : List S := M.place
def c_place_of : Scope := fnScope (stmtAt P 1)
theorem sq_place_of : (recOf P "place_of").scope = c_place_of := by kernel_rfl
theorem bq_place_of : (recOf P "place_of").body = fnBody (stmtAt P 1) := by kernel_rfl

def n_held : List Str := ["candidates", "places", "left", "found", "place", "weight"]
abbrev m_held : List S := M.held
def c_held : Scope := fnScope (stmtAt P 2)
theorem sq_held : (recOf P "held").scope = c_held := by kernel_rfl
theorem bq_held : (recOf P "held").body = fnBody (stmtAt P 2) := by kernel_rfl

def n_law_cell : List Str := ["_law_script", "_law_k", "_law_number"]
abbrev m_law_cell : List S := M.cell
def c_law_cell : Scope := fnScope (stmtAt P 4)
theorem sq_law_cell : (recOf P "_law_cell").scope = c_law_cell := by kernel_rfl
theorem bq_law_cell : (recOf P "_law_cell").body = fnBody (stmtAt P 4) := by kernel_rfl

def n_law_whole : List Str := ["_law_found"]
abbrev m_law_whole : List S := M.whole
def c_law_whole : Scope := fnScope (stmtAt P 5)
theorem sq_law_whole : (recOf P "_law_whole").scope = c_law_whole := by kernel_rfl
theorem bq_law_whole : (recOf P "_law_whole").body = fnBody (stmtAt P 5) := by kernel_rfl

def n_law_row : List Str := ["_law_cell_here", "_law_candidates_here", "_law_left", "_law_state", "_law_row_here", "_law_k"]
abbrev m_law_row : List S := M.row
def c_law_row : Scope := fnScope (stmtAt P 6)
theorem sq_law_row : (recOf P "_law_row").scope = c_law_row := by kernel_rfl
theorem bq_law_row : (recOf P "_law_row").body = fnBody (stmtAt P 6) := by kernel_rfl

def n_law_weight : List Str := ["_law_cell_here", "_law_kind"]
abbrev m_law_weight : List S := M.weight
def c_law_weight : Scope := fnScope (stmtAt P 7)
theorem sq_law_weight : (recOf P "_law_weight").scope = c_law_weight := by kernel_rfl
theorem bq_law_weight : (recOf P "_law_weight").body = fnBody (stmtAt P 7) := by kernel_rfl

def n_law_candidates : List Str := ["_law_script"]
abbrev m_law_candidates : List S := M.candidates
def c_law_candidates : Scope := fnScope (stmtAt P 8)
theorem sq_law_candidates : (recOf P "_law_candidates").scope = c_law_candidates := by kernel_rfl
theorem bq_law_candidates : (recOf P "_law_candidates").body = fnBody (stmtAt P 8) := by kernel_rfl

def n_law_ballots : List Str := ["_law_script", "_law_candidates_here", "_law_many", "_law_kind", "_law_ballots_here", "_law_k", "_law_weight_here", "_law_row_here", "_law_one"]
abbrev m_law_ballots : List S := M.ballots
def c_law_ballots : Scope := fnScope (stmtAt P 9)
theorem sq_law_ballots : (recOf P "_law_ballots").scope = c_law_ballots := by kernel_rfl
theorem bq_law_ballots : (recOf P "_law_ballots").body = fnBody (stmtAt P 9) := by kernel_rfl

def n_law_standing : List Str := ["_law_number", "_law_candidates_here", "_law_found", "_law_one"]
def b_law_standing_1 : List S :=
  [.iff (.cmp .eq (.bin .mod (.var 0) (.cst (.int 2))) (.cst (.int 1)))
      [.app 2 (.var 3)]
      [],
    .asg 0 (.bin .fdiv (.var 0) (.cst (.int 2)))]
def m_law_standing : List S :=
  [.asgM 2 (.disp []),
    .for_ [3] (.range (.var 1)) b_law_standing_1,
    .freeze 2,
    .ret (.var 2)]
def c_law_standing : Scope := fnScope (stmtAt P 11)
theorem sq_law_standing : (recOf P "_law_standing").scope = c_law_standing := by kernel_rfl
theorem bq_law_standing : (recOf P "_law_standing").body = fnBody (stmtAt P 11) := by kernel_rfl

def n_law_first : List Str := ["_law_row_here", "_law_standing_here", "_law_one", "_law_other"]
def b_law_first_1 : List S :=
  [.iff (.cmp .eq (.var 2) (.var 3))
      [.ret (.var 2)]
      []]
def b_law_first_2 : List S :=
  [.for_ [3] (.seq (.var 1)) b_law_first_1]
def m_law_first : List S :=
  [.for_ [2] (.seq (.var 0)) b_law_first_2,
    .ret (.cst .none)]
def c_law_first : Scope := fnScope (stmtAt P 12)
theorem sq_law_first : (recOf P "_law_first").scope = c_law_first := by kernel_rfl
theorem bq_law_first : (recOf P "_law_first").body = fnBody (stmtAt P 12) := by kernel_rfl

def n_law : List Str := ["_law_script", "_law_candidates_here", "_law_ballots_here", "_law_standing_here", "_law_left", "_law_places", "_law_handed", "_law_found", "_law_due", "_law_k", "_law_weight_here", "_law_row_here", "_law_one"]
def e_law_1 : E :=
  (.bin .sub (.var 10) (.bin .mod (.call "_law_cell" [(.var 0), (.cst (.int 5))]) (.var 10)))
def b_law_1 : List S :=
  [.asg 6 (.lst (.disp [(.lst (.ofSeq (.seq (.var 11)))), (.lst (.ofSeq (.seq (.var 3))))])),
    .asg 7 (.call "place_of" [(.idx (.var 6) (.cst (.int 0))), (.idx (.var 6) (.cst (.int 1)))]),
    .asg 8 (.call "_law_first" [(.var 11), (.var 3)]),
    .iff (.or_ (.cmp .ne (.var 6) (.lst (.disp [(.var 11), (.var 3)]))) (.or_ (.cmp .ne (.var 7) (.var 8)) (.and_ (.cmp .isn (.var 8) (.cst .none)) (.not_ (.call "_law_whole" [(.var 7)])))))
      [.ret (.cst (.bool false))]
      [],
    .app 5 (.var 8)]
def p_law_1 : E :=
  (.not_ (.call "_law_whole" [(.var 12)]))
def e_law_2 : E :=
  (.var 12)
def b_law_2 : List S :=
  [.iff (.cmp .isn (.idx (.var 5) (.var 9)) (.cst .none))
      [.setI 8 (.idx (.var 5) (.var 9)) (.borrow [8] (.bin .add (.idx (.var 8) (.idx (.var 5) (.var 9))) (.idx (.var 4) (.var 9))))]
      []]
def m_law : List S :=
  [.asg 1 (.call "_law_candidates" [(.var 0)]),
    .asg 2 (.call "_law_ballots" [(.var 0), (.var 1)]),
    .asg 3 (.call "_law_standing" [(.call "_law_cell" [(.var 0), (.cst (.int 4))]), (.var 1)]),
    .asg 4 (.lst (.comp e_law_1 [10, 11] (.seq (.var 2)) none)),
    .asgM 5 (.disp []),
    .for_ [10, 11] (.seq (.var 2)) b_law_1,
    .freeze 5,
    .asg 6 (.lst (.disp [(.lst (.ofSeq (.seq (.var 5)))), (.lst (.ofSeq (.seq (.var 4))))])),
    .asg 7 (.call "held" [(.var 1), (.idx (.var 6) (.cst (.int 0))), (.idx (.var 6) (.cst (.int 1)))]),
    .iff (.or_ (.cmp .ne (.var 6) (.lst (.disp [(.var 5), (.var 4)]))) (.or_ (.not_ (.bi .islist [(.var 7)])) (.cmp .ne (.lst (.comp e_law_2 [12] (.seq (.var 7)) (some p_law_1))) (.lst (.disp [])))))
      [.ret (.cst (.bool false))]
      [],
    .asgM 8 (.rep (.cst (.int 0)) (.var 1)),
    .for_ [9] (.range (.bi .len [(.var 5)])) b_law_2,
    .ret (.borrow [8] (.cmp .eq (.var 7) (.var 8)))]
def c_law : Scope := fnScope (stmtAt P 13)
theorem sq_law : (recOf P "law").scope = c_law := by kernel_rfl
theorem bq_law : (recOf P "law").body = fnBody (stmtAt P 13) := by kernel_rfl

structure Has (X : Cx) : Prop where
  gnd : Gnd X
  place_of_is : FnIs X "place_of" (recOf P "place_of").scope ["row", "standing"] (recOf P "place_of").body
  held_is : FnIs X "held" (recOf P "held").scope ["candidates", "places", "left"] (recOf P "held").body
  law_cell_is : FnIs X "_law_cell" (recOf P "_law_cell").scope ["_law_script", "_law_k"] (recOf P "_law_cell").body
  law_whole_is : FnIs X "_law_whole" (recOf P "_law_whole").scope ["_law_found"] (recOf P "_law_whole").body
  law_row_is : FnIs X "_law_row" (recOf P "_law_row").scope ["_law_cell_here", "_law_candidates_here"] (recOf P "_law_row").body
  law_weight_is : FnIs X "_law_weight" (recOf P "_law_weight").scope ["_law_cell_here", "_law_kind"] (recOf P "_law_weight").body
  law_candidates_is : FnIs X "_law_candidates" (recOf P "_law_candidates").scope ["_law_script"] (recOf P "_law_candidates").body
  law_ballots_is : FnIs X "_law_ballots" (recOf P "_law_ballots").scope ["_law_script", "_law_candidates_here"] (recOf P "_law_ballots").body
  law_copy_is : FnIs X "_law_copy" (recOf P "_law_copy").scope ["_law_ballots_here"] (recOf P "_law_copy").body
  law_standing_is : FnIs X "_law_standing" (recOf P "_law_standing").scope ["_law_number", "_law_candidates_here"] (recOf P "_law_standing").body
  law_first_is : FnIs X "_law_first" (recOf P "_law_first").scope ["_law_row_here", "_law_standing_here"] (recOf P "_law_first").body
  law_is : FnIs X "law" (recOf P "law").scope ["_law_script"] (recOf P "law").body

theorem sc_place_of : scOk c_place_of n_place_of ["row", "standing"] = true := by kernel_rfl
theorem ok_place_of {X : Cx} (H : Has X) {n : Nat} : SSs X n c_place_of n_place_of (fnBody (stmtAt P 1)) m_place_of :=
  (SSs_cons (SS_for (tgt_of (by kernel_rfl)) (SI_seq (SE_var (i := 0) (by kernel_rfl) (by kernel_rfl) (by kernel_rfl))) (SSs_cons (SS_if (ST_cmp rfl (SE_var (i := 2) (by kernel_rfl) (by kernel_rfl) (by kernel_rfl)) (SE_var (i := 1) (by kernel_rfl) (by kernel_rfl) (by kernel_rfl)) (by kernel_rfl)) (SSs_cons (SS_ret (SE_var (i := 2) (by kernel_rfl) (by kernel_rfl) (by kernel_rfl))) SSs_nil) SSs_nil) SSs_nil) (by kernel_rfl)) (SSs_cons (SS_ret SE_none) SSs_nil))
theorem call_place_of {X : Cx} (H : Has X) {n : Nat} {d0 d1 : D} {σ : Sg} {Q : D → Sg → Prop} (h : mExecs X n m_place_of [.val d0, .val d1, .unb] σ (fun fl _ σ' => (∀ b, σ b ≠ none → σ' b ≠ none) ∧ Q (flD fl) σ')) :
    CallSem X (n + 1) "place_of" [d0, d1] σ Q := call_intro H.gnd (sq_place_of ▸ bq_place_of ▸ H.place_of_is) (ScOk.of sc_place_of) (ok_place_of H) rfl h

theorem sc_held : scOk c_held n_held ["candidates", "places", "left"] = true := by kernel_rfl
theorem ok_held {X : Cx} (H : Has X) {n : Nat} : SSs X n c_held n_held (fnBody (stmtAt P 2)) m_held :=
  (SSs_cons (SS_asgM (i := 3) (by kernel_rfl) (by kernel_rfl) (SL_rep SE_int (SE_var (i := 0) (by kernel_rfl) (by kernel_rfl) (by kernel_rfl)) (by kernel_rfl)) (by kernel_rfl)) (SSs_cons (SS_for (tgt_of (by kernel_rfl)) (SI_zip H.gnd (SE_var (i := 1) (by kernel_rfl) (by kernel_rfl) (by kernel_rfl)) (SE_var (i := 2) (by kernel_rfl) (by kernel_rfl) (by kernel_rfl)) (by kernel_rfl) (by kernel_rfl) (by kernel_rfl)) (SSs_cons (SS_if (ST_cmp rfl (SE_var (i := 4) (by kernel_rfl) (by kernel_rfl) (by kernel_rfl)) SE_none (by kernel_rfl)) (SSs_cons (SS_setI (i := 3) (by kernel_rfl) (by kernel_rfl) (by kernel_rfl) (SE_borrow (by kernel_rfl) (SE_bin rfl (SE_idx (SE_var (i := 3) (by kernel_rfl) (by kernel_rfl) (by kernel_rfl)) (SE_var (i := 4) (by kernel_rfl) (by kernel_rfl) (by kernel_rfl)) (by kernel_rfl)) (SE_var (i := 5) (by kernel_rfl) (by kernel_rfl) (by kernel_rfl)))) (SE_var (i := 4) (by kernel_rfl) (by kernel_rfl) (by kernel_rfl)) (by kernel_rfl)) SSs_nil) SSs_nil) SSs_nil) (by kernel_rfl)) (SSs_freeze (i := 3) (x := "found") (by kernel_rfl) (by kernel_rfl) (SSs_cons (SS_ret (SE_var (i := 3) (by kernel_rfl) (by kernel_rfl) (by kernel_rfl))) SSs_nil))))
theorem call_held {X : Cx} (H : Has X) {n : Nat} {d0 d1 d2 : D} {σ : Sg} {Q : D → Sg → Prop} (h : mExecs X n m_held [.val d0, .val d1, .val d2, .unb, .unb, .unb] σ (fun fl _ σ' => (∀ b, σ b ≠ none → σ' b ≠ none) ∧ Q (flD fl) σ')) :
    CallSem X (n + 1) "held" [d0, d1, d2] σ Q := call_intro H.gnd (sq_held ▸ bq_held ▸ H.held_is) (ScOk.of sc_held) (ok_held H) rfl h

theorem sc_law_cell : scOk c_law_cell n_law_cell ["_law_script", "_law_k"] = true := by kernel_rfl
theorem ok_law_cell {X : Cx} (H : Has X) {n : Nat} : SSs X n c_law_cell n_law_cell (fnBody (stmtAt P 4)) m_law_cell :=
  (SSs_cons (SS_if (ST_cmp rfl (SE_var (i := 1) (by kernel_rfl) (by kernel_rfl) (by kernel_rfl)) (SE_len H.gnd (SE_var (i := 0) (by kernel_rfl) (by kernel_rfl) (by kernel_rfl)) (by kernel_rfl) (by kernel_rfl)) (by kernel_rfl)) (SSs_cons (SS_ret (SE_idx (SE_var (i := 0) (by kernel_rfl) (by kernel_rfl) (by kernel_rfl)) (SE_var (i := 1) (by kernel_rfl) (by kernel_rfl) (by kernel_rfl)) (by kernel_rfl))) SSs_nil) SSs_nil) (SSs_cons (SS_asg (i := 2) (by kernel_rfl) (by kernel_rfl) (SE_bin rfl (SE_bin rfl (SE_var (i := 1) (by kernel_rfl) (by kernel_rfl) (by kernel_rfl)) SE_int) SE_int) (by kernel_rfl)) (SSs_cons (SS_if (ST_cmp rfl (SE_len H.gnd (SE_var (i := 0) (by kernel_rfl) (by kernel_rfl) (by kernel_rfl)) (by kernel_rfl) (by kernel_rfl)) SE_int (by kernel_rfl)) (SSs_cons (SS_asg (i := 2) (by kernel_rfl) (by kernel_rfl) (SE_bin rfl (SE_bin rfl (SE_bin rfl (SE_idx (SE_var (i := 0) (by kernel_rfl) (by kernel_rfl) (by kernel_rfl)) (SE_bin rfl (SE_bin rfl (SE_var (i := 1) (by kernel_rfl) (by kernel_rfl) (by kernel_rfl)) SE_int) (SE_len H.gnd (SE_var (i := 0) (by kernel_rfl) (by kernel_rfl) (by kernel_rfl)) (by kernel_rfl) (by kernel_rfl))) (by kernel_rfl)) SE_int) (SE_bin rfl (SE_var (i := 1) (by kernel_rfl) (by kernel_rfl) (by kernel_rfl)) SE_int)) SE_int) (by kernel_rfl)) SSs_nil) SSs_nil) (SSs_cons (SS_ret (SE_bin rfl (SE_bin rfl (SE_var (i := 2) (by kernel_rfl) (by kernel_rfl) (by kernel_rfl)) (SE_var (i := 2) (by kernel_rfl) (by kernel_rfl) (by kernel_rfl))) SE_int)) SSs_nil))))
theorem call_law_cell {X : Cx} (H : Has X) {n : Nat} {d0 d1 : D} {σ : Sg} {Q : D → Sg → Prop} (h : mExecs X n m_law_cell [.val d0, .val d1, .unb] σ (fun fl _ σ' => (∀ b, σ b ≠ none → σ' b ≠ none) ∧ Q (flD fl) σ')) :
    CallSem X (n + 1) "_law_cell" [d0, d1] σ Q := call_intro H.gnd (sq_law_cell ▸ bq_law_cell ▸ H.law_cell_is) (ScOk.of sc_law_cell) (ok_law_cell H) rfl h

theorem sc_law_whole : scOk c_law_whole n_law_whole ["_law_found"] = true := by kernel_rfl
theorem ok_law_whole {X : Cx} (H : Has X) {n : Nat} : SSs X n c_law_whole n_law_whole (fnBody (stmtAt P 5)) m_law_whole :=
  (SSs_cons (SS_ret (SE_and (SE_isint H.gnd (SE_var (i := 0) (by kernel_rfl) (by kernel_rfl) (by kernel_rfl)) (by kernel_rfl) (by kernel_rfl) (by kernel_rfl)) (SE_one (SE_not (SE_isbool H.gnd (SE_var (i := 0) (by kernel_rfl) (by kernel_rfl) (by kernel_rfl)) (by kernel_rfl) (by kernel_rfl) (by kernel_rfl)))))) SSs_nil)
theorem call_law_whole {X : Cx} (H : Has X) {n : Nat} {d0 : D} {σ : Sg} {Q : D → Sg → Prop} (h : mExecs X n m_law_whole [.val d0] σ (fun fl _ σ' => (∀ b, σ b ≠ none → σ' b ≠ none) ∧ Q (flD fl) σ')) :
    CallSem X (n + 1) "_law_whole" [d0] σ Q := call_intro H.gnd (sq_law_whole ▸ bq_law_whole ▸ H.law_whole_is) (ScOk.of sc_law_whole) (ok_law_whole H) rfl h

theorem sc_law_row : scOk c_law_row n_law_row ["_law_cell_here", "_law_candidates_here"] = true := by kernel_rfl
theorem ok_law_row {X : Cx} (H : Has X) {n : Nat} : SSs X n c_law_row n_law_row (fnBody (stmtAt P 6)) m_law_row :=
  (SSs_cons (SS_asgM (i := 2) (by kernel_rfl) (by kernel_rfl) (SL_listRange H.gnd (SE_var (i := 1) (by kernel_rfl) (by kernel_rfl) (by kernel_rfl)) (by kernel_rfl) (by kernel_rfl) (by kernel_rfl)) (by kernel_rfl)) (SSs_cons (SS_asg (i := 3) (by kernel_rfl) (by kernel_rfl) (SE_bin rfl SE_int (SE_bin rfl (SE_var (i := 0) (by kernel_rfl) (by kernel_rfl) (by kernel_rfl)) SE_int)) (by kernel_rfl)) (SSs_cons (SS_asgM (i := 4) (by kernel_rfl) (by kernel_rfl) (SL_disp SEs_nil) (by kernel_rfl)) (SSs_cons (SS_for (tgt_of (by kernel_rfl)) (SI_range H.gnd (SE_bin rfl (SE_var (i := 3) (by kernel_rfl) (by kernel_rfl) (by kernel_rfl)) (SE_bin rfl (SE_var (i := 1) (by kernel_rfl) (by kernel_rfl) (by kernel_rfl)) SE_int)) (by kernel_rfl) (by kernel_rfl)) (SSs_cons (SS_asg (i := 3) (by kernel_rfl) (by kernel_rfl) (SE_bin rfl (SE_bin rfl (SE_bin rfl (SE_var (i := 3) (by kernel_rfl) (by kernel_rfl) (by kernel_rfl)) SE_int) SE_int) SE_int) (by kernel_rfl)) (SSs_cons (SS_if (ST_borrow (by kernel_rfl) (ST_cmp rfl (SE_var (i := 2) (by kernel_rfl) (by kernel_rfl) (by kernel_rfl)) (SE_lst (SL_disp SEs_nil)) (by kernel_rfl))) (SSs_cons (SS_appPop (i := 4) (j := 2) (by kernel_rfl) (by kernel_rfl) (by kernel_rfl) (by kernel_rfl) (by kernel_rfl) (by kernel_rfl) (SE_borrow (by kernel_rfl) (SE_bin rfl (SE_bin rfl (SE_var (i := 3) (by kernel_rfl) (by kernel_rfl) (by kernel_rfl)) SE_int) (SE_len H.gnd (SE_var (i := 2) (by kernel_rfl) (by kernel_rfl) (by kernel_rfl)) (by kernel_rfl) (by kernel_rfl)))) (by kernel_rfl) (by kernel_rfl) (by kernel_rfl)) SSs_nil) SSs_nil) SSs_nil)) (by kernel_rfl)) (SSs_freeze (i := 4) (x := "_law_row_here") (by kernel_rfl) (by kernel_rfl) (SSs_cons (SS_ret (SE_var (i := 4) (by kernel_rfl) (by kernel_rfl) (by kernel_rfl))) SSs_nil))))))
theorem call_law_row {X : Cx} (H : Has X) {n : Nat} {d0 d1 : D} {σ : Sg} {Q : D → Sg → Prop} (h : mExecs X n m_law_row [.val d0, .val d1, .unb, .unb, .unb, .unb] σ (fun fl _ σ' => (∀ b, σ b ≠ none → σ' b ≠ none) ∧ Q (flD fl) σ')) :
    CallSem X (n + 1) "_law_row" [d0, d1] σ Q := call_intro H.gnd (sq_law_row ▸ bq_law_row ▸ H.law_row_is) (ScOk.of sc_law_row) (ok_law_row H) rfl h

theorem sc_law_weight : scOk c_law_weight n_law_weight ["_law_cell_here", "_law_kind"] = true := by kernel_rfl
theorem ok_law_weight {X : Cx} (H : Has X) {n : Nat} : SSs X n c_law_weight n_law_weight (fnBody (stmtAt P 7)) m_law_weight :=
  (SSs_cons (SS_ret (SE_bin rfl SE_int (SE_bin rfl (SE_var (i := 0) (by kernel_rfl) (by kernel_rfl) (by kernel_rfl)) (SE_idx (SE_lst (SL_disp (SEs_cons SE_int (SEs_cons SE_int (SEs_cons SE_int (SEs_cons SE_int SEs_nil (by kernel_rfl)) (by kernel_rfl)) (by kernel_rfl)) (by kernel_rfl)))) (SE_var (i := 1) (by kernel_rfl) (by kernel_rfl) (by kernel_rfl)) (by kernel_rfl))))) SSs_nil)
theorem call_law_weight {X : Cx} (H : Has X) {n : Nat} {d0 d1 : D} {σ : Sg} {Q : D → Sg → Prop} (h : mExecs X n m_law_weight [.val d0, .val d1] σ (fun fl _ σ' => (∀ b, σ b ≠ none → σ' b ≠ none) ∧ Q (flD fl) σ')) :
    CallSem X (n + 1) "_law_weight" [d0, d1] σ Q := call_intro H.gnd (sq_law_weight ▸ bq_law_weight ▸ H.law_weight_is) (ScOk.of sc_law_weight) (ok_law_weight H) rfl h

theorem sc_law_candidates : scOk c_law_candidates n_law_candidates ["_law_script"] = true := by kernel_rfl
theorem ok_law_candidates {X : Cx} (H : Has X) {n : Nat} : SSs X n c_law_candidates n_law_candidates (fnBody (stmtAt P 8)) m_law_candidates :=
  (SSs_cons (SS_if (ST_cmp rfl (SE_bin rfl (SE_bin rfl (SE_call H.gnd H.law_cell_is.isFn (SEs_cons (SE_var (i := 0) (by kernel_rfl) (by kernel_rfl) (by kernel_rfl)) (SEs_cons SE_int SEs_nil (by kernel_rfl)) (by kernel_rfl)) (by kernel_rfl) (by kernel_rfl) (by kernel_rfl)) SE_int) SE_int) SE_int (by kernel_rfl)) (SSs_cons (SS_ret (SE_bin rfl SE_int (SE_bin rfl (SE_bin rfl (SE_call H.gnd H.law_cell_is.isFn (SEs_cons (SE_var (i := 0) (by kernel_rfl) (by kernel_rfl) (by kernel_rfl)) (SEs_cons SE_int SEs_nil (by kernel_rfl)) (by kernel_rfl)) (by kernel_rfl) (by kernel_rfl) (by kernel_rfl)) SE_int) SE_int))) SSs_nil) SSs_nil) (SSs_cons (SS_ret (SE_bin rfl SE_int (SE_bin rfl (SE_call H.gnd H.law_cell_is.isFn (SEs_cons (SE_var (i := 0) (by kernel_rfl) (by kernel_rfl) (by kernel_rfl)) (SEs_cons SE_int SEs_nil (by kernel_rfl)) (by kernel_rfl)) (by kernel_rfl) (by kernel_rfl) (by kernel_rfl)) SE_int))) SSs_nil))
theorem call_law_candidates {X : Cx} (H : Has X) {n : Nat} {d0 : D} {σ : Sg} {Q : D → Sg → Prop} (h : mExecs X n m_law_candidates [.val d0] σ (fun fl _ σ' => (∀ b, σ b ≠ none → σ' b ≠ none) ∧ Q (flD fl) σ')) :
    CallSem X (n + 1) "_law_candidates" [d0] σ Q := call_intro H.gnd (sq_law_candidates ▸ bq_law_candidates ▸ H.law_candidates_is) (ScOk.of sc_law_candidates) (ok_law_candidates H) rfl h

theorem sc_law_ballots : scOk c_law_ballots n_law_ballots ["_law_script", "_law_candidates_here"] = true := by kernel_rfl
theorem ok_law_ballots {X : Cx} (H : Has X) {n : Nat} : SSs X n c_law_ballots n_law_ballots (fnBody (stmtAt P 9)) m_law_ballots :=
  (SSs_cons (SS_asg (i := 2) (by kernel_rfl) (by kernel_rfl) (SE_bin rfl (SE_call H.gnd H.law_cell_is.isFn (SEs_cons (SE_var (i := 0) (by kernel_rfl) (by kernel_rfl) (by kernel_rfl)) (SEs_cons SE_int SEs_nil (by kernel_rfl)) (by kernel_rfl)) (by kernel_rfl) (by kernel_rfl) (by kernel_rfl)) SE_int) (by kernel_rfl)) (SSs_cons (SS_if (ST_cmp rfl (SE_bin rfl (SE_bin rfl (SE_call H.gnd H.law_cell_is.isFn (SEs_cons (SE_var (i := 0) (by kernel_rfl) (by kernel_rfl) (by kernel_rfl)) (SEs_cons SE_int SEs_nil (by kernel_rfl)) (by kernel_rfl)) (by kernel_rfl) (by kernel_rfl) (by kernel_rfl)) SE_int) SE_int) SE_int (by kernel_rfl)) (SSs_cons (SS_asg (i := 2) (by kernel_rfl) (by kernel_rfl) (SE_bin rfl (SE_bin rfl (SE_call H.gnd H.law_cell_is.isFn (SEs_cons (SE_var (i := 0) (by kernel_rfl) (by kernel_rfl) (by kernel_rfl)) (SEs_cons SE_int SEs_nil (by kernel_rfl)) (by kernel_rfl)) (by kernel_rfl) (by kernel_rfl) (by kernel_rfl)) SE_int) SE_int) (by kernel_rfl)) SSs_nil) SSs_nil) (SSs_cons (SS_asg (i := 3) (by kernel_rfl) (by kernel_rfl) (SE_bin rfl (SE_call H.gnd H.law_cell_is.isFn (SEs_cons (SE_var (i := 0) (by kernel_rfl) (by kernel_rfl) (by kernel_rfl)) (SEs_cons SE_int SEs_nil (by kernel_rfl)) (by kernel_rfl)) (by kernel_rfl) (by kernel_rfl) (by kernel_rfl)) SE_int) (by kernel_rfl)) (SSs_cons (SS_asgM (i := 4) (by kernel_rfl) (by kernel_rfl) (SL_disp SEs_nil) (by kernel_rfl)) (SSs_cons (SS_for (tgt_of (by kernel_rfl)) (SI_range H.gnd (SE_var (i := 2) (by kernel_rfl) (by kernel_rfl) (by kernel_rfl)) (by kernel_rfl) (by kernel_rfl)) (SSs_cons (SS_asg (i := 6) (by kernel_rfl) (by kernel_rfl) (SE_call H.gnd H.law_weight_is.isFn (SEs_cons (SE_call H.gnd H.law_cell_is.isFn (SEs_cons (SE_var (i := 0) (by kernel_rfl) (by kernel_rfl) (by kernel_rfl)) (SEs_cons (SE_bin rfl SE_int (SE_bin rfl SE_int (SE_var (i := 5) (by kernel_rfl) (by kernel_rfl) (by kernel_rfl)))) SEs_nil (by kernel_rfl)) (by kernel_rfl)) (by kernel_rfl) (by kernel_rfl) (by kernel_rfl)) (SEs_cons (SE_var (i := 3) (by kernel_rfl) (by kernel_rfl) (by kernel_rfl)) SEs_nil (by kernel_rfl)) (by kernel_rfl)) (by kernel_rfl) (by kernel_rfl) (by kernel_rfl)) (by kernel_rfl)) (SSs_cons (SS_asg (i := 7) (by kernel_rfl) (by kernel_rfl) (SE_call H.gnd H.law_row_is.isFn (SEs_cons (SE_call H.gnd H.law_cell_is.isFn (SEs_cons (SE_var (i := 0) (by kernel_rfl) (by kernel_rfl) (by kernel_rfl)) (SEs_cons (SE_bin rfl SE_int (SE_bin rfl SE_int (SE_var (i := 5) (by kernel_rfl) (by kernel_rfl) (by kernel_rfl)))) SEs_nil (by kernel_rfl)) (by kernel_rfl)) (by kernel_rfl) (by kernel_rfl) (by kernel_rfl)) (SEs_cons (SE_var (i := 1) (by kernel_rfl) (by kernel_rfl) (by kernel_rfl)) SEs_nil (by kernel_rfl)) (by kernel_rfl)) (by kernel_rfl) (by kernel_rfl) (by kernel_rfl)) (by kernel_rfl)) (SSs_cons (SS_if (ST_borrow (by kernel_rfl) (ST_and (ST_cmp rfl (SE_bin rfl (SE_call H.gnd H.law_cell_is.isFn (SEs_cons (SE_var (i := 0) (by kernel_rfl) (by kernel_rfl) (by kernel_rfl)) (SEs_cons SE_int SEs_nil (by kernel_rfl)) (by kernel_rfl)) (by kernel_rfl) (by kernel_rfl) (by kernel_rfl)) SE_int) SE_int (by kernel_rfl)) (ST_and (ST_cmp rfl (SE_len H.gnd (SE_var (i := 4) (by kernel_rfl) (by kernel_rfl) (by kernel_rfl)) (by kernel_rfl) (by kernel_rfl)) SE_int (by kernel_rfl)) (ST_one_and (ST_cmp rfl (SE_len H.gnd (SE_var (i := 7) (by kernel_rfl) (by kernel_rfl) (by kernel_rfl)) (by kernel_rfl) (by kernel_rfl)) SE_int (by kernel_rfl)))))) (SSs_cons (SS_asgM (i := 7) (by kernel_rfl) (by kernel_rfl) (SL_borrow (by kernel_rfl) (SL_cat (SE_lst (SL_upto (SE_idx (SE_idx (SE_var (i := 4) (by kernel_rfl) (by kernel_rfl) (by kernel_rfl)) SE_int (by kernel_rfl)) SE_int (by kernel_rfl)) SE_int)) (SE_lst (SL_comp (comp_of (by kernel_rfl)) (tgtL_of (by kernel_rfl)) (SI_seq (SE_var (i := 7) (by kernel_rfl) (by kernel_rfl) (by kernel_rfl))) (SE_var (i := 8) (by kernel_rfl) (by kernel_rfl) (by kernel_rfl)) (CondOk.one (ST_cmp rfl (SE_lst (SL_disp (SEs_cons (SE_var (i := 8) (by kernel_rfl) (by kernel_rfl) (by kernel_rfl)) SEs_nil (by kernel_rfl)))) (SE_lst (SL_upto (SE_idx (SE_idx (SE_var (i := 4) (by kernel_rfl) (by kernel_rfl) (by kernel_rfl)) SE_int (by kernel_rfl)) SE_int (by kernel_rfl)) SE_int)) (by kernel_rfl))) (by kernel_rfl))))) (by kernel_rfl)) (SSs_freeze (i := 7) (x := "_law_row_here") (by kernel_rfl) (by kernel_rfl) SSs_nil)) SSs_nil) (SSs_cons (SS_app (i := 4) (by kernel_rfl) (by kernel_rfl) (by kernel_rfl) (SE_tup (SEs_cons (SE_var (i := 6) (by kernel_rfl) (by kernel_rfl) (by kernel_rfl)) (SEs_cons (SE_var (i := 7) (by kernel_rfl) (by kernel_rfl) (by kernel_rfl)) SEs_nil (by kernel_rfl)) (by kernel_rfl))) (by kernel_rfl) (by kernel_rfl)) SSs_nil)))) (by kernel_rfl)) (SSs_freeze (i := 4) (x := "_law_ballots_here") (by kernel_rfl) (by kernel_rfl) (SSs_cons (SS_ret (SE_var (i := 4) (by kernel_rfl) (by kernel_rfl) (by kernel_rfl))) SSs_nil)))))))
theorem call_law_ballots {X : Cx} (H : Has X) {n : Nat} {d0 d1 : D} {σ : Sg} {Q : D → Sg → Prop} (h : mExecs X n m_law_ballots [.val d0, .val d1, .unb, .unb, .unb, .unb, .unb, .unb, .unb] σ (fun fl _ σ' => (∀ b, σ b ≠ none → σ' b ≠ none) ∧ Q (flD fl) σ')) :
    CallSem X (n + 1) "_law_ballots" [d0, d1] σ Q := call_intro H.gnd (sq_law_ballots ▸ bq_law_ballots ▸ H.law_ballots_is) (ScOk.of sc_law_ballots) (ok_law_ballots H) rfl h

theorem sc_law_standing : scOk c_law_standing n_law_standing ["_law_number", "_law_candidates_here"] = true := by kernel_rfl
theorem ok_law_standing {X : Cx} (H : Has X) {n : Nat} : SSs X n c_law_standing n_law_standing (fnBody (stmtAt P 11)) m_law_standing :=
  (SSs_cons (SS_asgM (i := 2) (by kernel_rfl) (by kernel_rfl) (SL_disp SEs_nil) (by kernel_rfl)) (SSs_cons (SS_for (tgt_of (by kernel_rfl)) (SI_range H.gnd (SE_var (i := 1) (by kernel_rfl) (by kernel_rfl) (by kernel_rfl)) (by kernel_rfl) (by kernel_rfl)) (SSs_cons (SS_if (ST_cmp rfl (SE_bin rfl (SE_var (i := 0) (by kernel_rfl) (by kernel_rfl) (by kernel_rfl)) SE_int) SE_int (by kernel_rfl)) (SSs_cons (SS_app (i := 2) (by kernel_rfl) (by kernel_rfl) (by kernel_rfl) (SE_var (i := 3) (by kernel_rfl) (by kernel_rfl) (by kernel_rfl)) (by kernel_rfl) (by kernel_rfl)) SSs_nil) SSs_nil) (SSs_cons (SS_asg (i := 0) (by kernel_rfl) (by kernel_rfl) (SE_bin rfl (SE_var (i := 0) (by kernel_rfl) (by kernel_rfl) (by kernel_rfl)) SE_int) (by kernel_rfl)) SSs_nil)) (by kernel_rfl)) (SSs_freeze (i := 2) (x := "_law_found") (by kernel_rfl) (by kernel_rfl) (SSs_cons (SS_ret (SE_var (i := 2) (by kernel_rfl) (by kernel_rfl) (by kernel_rfl))) SSs_nil))))
theorem call_law_standing {X : Cx} (H : Has X) {n : Nat} {d0 d1 : D} {σ : Sg} {Q : D → Sg → Prop} (h : mExecs X n m_law_standing [.val d0, .val d1, .unb, .unb] σ (fun fl _ σ' => (∀ b, σ b ≠ none → σ' b ≠ none) ∧ Q (flD fl) σ')) :
    CallSem X (n + 1) "_law_standing" [d0, d1] σ Q := call_intro H.gnd (sq_law_standing ▸ bq_law_standing ▸ H.law_standing_is) (ScOk.of sc_law_standing) (ok_law_standing H) rfl h

theorem sc_law_first : scOk c_law_first n_law_first ["_law_row_here", "_law_standing_here"] = true := by kernel_rfl
theorem ok_law_first {X : Cx} (H : Has X) {n : Nat} : SSs X n c_law_first n_law_first (fnBody (stmtAt P 12)) m_law_first :=
  (SSs_cons (SS_for (tgt_of (by kernel_rfl)) (SI_seq (SE_var (i := 0) (by kernel_rfl) (by kernel_rfl) (by kernel_rfl))) (SSs_cons (SS_for (tgt_of (by kernel_rfl)) (SI_seq (SE_var (i := 1) (by kernel_rfl) (by kernel_rfl) (by kernel_rfl))) (SSs_cons (SS_if (ST_cmp rfl (SE_var (i := 2) (by kernel_rfl) (by kernel_rfl) (by kernel_rfl)) (SE_var (i := 3) (by kernel_rfl) (by kernel_rfl) (by kernel_rfl)) (by kernel_rfl)) (SSs_cons (SS_ret (SE_var (i := 2) (by kernel_rfl) (by kernel_rfl) (by kernel_rfl))) SSs_nil) SSs_nil) SSs_nil) (by kernel_rfl)) SSs_nil) (by kernel_rfl)) (SSs_cons (SS_ret SE_none) SSs_nil))
theorem call_law_first {X : Cx} (H : Has X) {n : Nat} {d0 d1 : D} {σ : Sg} {Q : D → Sg → Prop} (h : mExecs X n m_law_first [.val d0, .val d1, .unb, .unb] σ (fun fl _ σ' => (∀ b, σ b ≠ none → σ' b ≠ none) ∧ Q (flD fl) σ')) :
    CallSem X (n + 1) "_law_first" [d0, d1] σ Q := call_intro H.gnd (sq_law_first ▸ bq_law_first ▸ H.law_first_is) (ScOk.of sc_law_first) (ok_law_first H) rfl h

theorem sc_law : scOk c_law n_law ["_law_script"] = true := by kernel_rfl
theorem ok_law {X : Cx} (H : Has X) {n : Nat} : SSs X n c_law n_law (fnBody (stmtAt P 13)) m_law :=
  (SSs_cons (SS_asg (i := 1) (by kernel_rfl) (by kernel_rfl) (SE_call H.gnd H.law_candidates_is.isFn (SEs_cons (SE_var (i := 0) (by kernel_rfl) (by kernel_rfl) (by kernel_rfl)) SEs_nil (by kernel_rfl)) (by kernel_rfl) (by kernel_rfl) (by kernel_rfl)) (by kernel_rfl)) (SSs_cons (SS_asg (i := 2) (by kernel_rfl) (by kernel_rfl) (SE_call H.gnd H.law_ballots_is.isFn (SEs_cons (SE_var (i := 0) (by kernel_rfl) (by kernel_rfl) (by kernel_rfl)) (SEs_cons (SE_var (i := 1) (by kernel_rfl) (by kernel_rfl) (by kernel_rfl)) SEs_nil (by kernel_rfl)) (by kernel_rfl)) (by kernel_rfl) (by kernel_rfl) (by kernel_rfl)) (by kernel_rfl)) (SSs_cons (SS_asg (i := 3) (by kernel_rfl) (by kernel_rfl) (SE_call H.gnd H.law_standing_is.isFn (SEs_cons (SE_call H.gnd H.law_cell_is.isFn (SEs_cons (SE_var (i := 0) (by kernel_rfl) (by kernel_rfl) (by kernel_rfl)) (SEs_cons SE_int SEs_nil (by kernel_rfl)) (by kernel_rfl)) (by kernel_rfl) (by kernel_rfl) (by kernel_rfl)) (SEs_cons (SE_var (i := 1) (by kernel_rfl) (by kernel_rfl) (by kernel_rfl)) SEs_nil (by kernel_rfl)) (by kernel_rfl)) (by kernel_rfl) (by kernel_rfl) (by kernel_rfl)) (by kernel_rfl)) (SSs_cons (SS_frozen (i := 4) (x := "_law_left") (by kernel_rfl) (by kernel_rfl) (SS_asgMC (i := 4) (by kernel_rfl) (by kernel_rfl) (comp_of (by kernel_rfl)) (tgtL_of (by kernel_rfl)) (SI_seqT (by decide) (SE_var (i := 2) (by kernel_rfl) (by kernel_rfl) (by kernel_rfl))) (SE_bin rfl (SE_var (i := 10) (by kernel_rfl) (by kernel_rfl) (by kernel_rfl)) (SE_bin rfl (SE_call H.gnd H.law_cell_is.isFn (SEs_cons (SE_var (i := 0) (by kernel_rfl) (by kernel_rfl) (by kernel_rfl)) (SEs_cons SE_int SEs_nil (by kernel_rfl)) (by kernel_rfl)) (by kernel_rfl) (by kernel_rfl) (by kernel_rfl)) (SE_var (i := 10) (by kernel_rfl) (by kernel_rfl) (by kernel_rfl)))) CondOk.nil (by kernel_rfl))) (SSs_cons (SS_asgM (i := 5) (by kernel_rfl) (by kernel_rfl) (SL_disp SEs_nil) (by kernel_rfl)) (SSs_cons (SS_for (tgt_of (by kernel_rfl)) (SI_seqT (by decide) (SE_var (i := 2) (by kernel_rfl) (by kernel_rfl) (by kernel_rfl))) (SSs_cons (SS_asg (i := 6) (by kernel_rfl) (by kernel_rfl) (SE_lst (SL_disp (SEs_cons (SE_lst (SL_list H.gnd (SE_var (i := 11) (by kernel_rfl) (by kernel_rfl) (by kernel_rfl)) (by kernel_rfl) (by kernel_rfl))) (SEs_cons (SE_lst (SL_list H.gnd (SE_var (i := 3) (by kernel_rfl) (by kernel_rfl) (by kernel_rfl)) (by kernel_rfl) (by kernel_rfl))) SEs_nil (by kernel_rfl)) (by kernel_rfl)))) (by kernel_rfl)) (SSs_cons (SS_asg (i := 7) (by kernel_rfl) (by kernel_rfl) (SE_call H.gnd H.place_of_is.isFn (SEs_cons (SE_idx (SE_var (i := 6) (by kernel_rfl) (by kernel_rfl) (by kernel_rfl)) SE_int (by kernel_rfl)) (SEs_cons (SE_idx (SE_var (i := 6) (by kernel_rfl) (by kernel_rfl) (by kernel_rfl)) SE_int (by kernel_rfl)) SEs_nil (by kernel_rfl)) (by kernel_rfl)) (by kernel_rfl) (by kernel_rfl) (by kernel_rfl)) (by kernel_rfl)) (SSs_cons (SS_asg (i := 8) (by kernel_rfl) (by kernel_rfl) (SE_call H.gnd H.law_first_is.isFn (SEs_cons (SE_var (i := 11) (by kernel_rfl) (by kernel_rfl) (by kernel_rfl)) (SEs_cons (SE_var (i := 3) (by kernel_rfl) (by kernel_rfl) (by kernel_rfl)) SEs_nil (by kernel_rfl)) (by kernel_rfl)) (by kernel_rfl) (by kernel_rfl) (by kernel_rfl)) (by kernel_rfl)) (SSs_cons (SS_if (ST_or (ST_cmp rfl (SE_var (i := 6) (by kernel_rfl) (by kernel_rfl) (by kernel_rfl)) (SE_lst (SL_disp (SEs_cons (SE_var (i := 11) (by kernel_rfl) (by kernel_rfl) (by kernel_rfl)) (SEs_cons (SE_var (i := 3) (by kernel_rfl) (by kernel_rfl) (by kernel_rfl)) SEs_nil (by kernel_rfl)) (by kernel_rfl)))) (by kernel_rfl)) (ST_or (ST_cmp rfl (SE_var (i := 7) (by kernel_rfl) (by kernel_rfl) (by kernel_rfl)) (SE_var (i := 8) (by kernel_rfl) (by kernel_rfl) (by kernel_rfl)) (by kernel_rfl)) (ST_one_or (ST_and (ST_cmp rfl (SE_var (i := 8) (by kernel_rfl) (by kernel_rfl) (by kernel_rfl)) SE_none (by kernel_rfl)) (ST_one_and (ST_not (ST_plain (SE_call H.gnd H.law_whole_is.isFn (SEs_cons (SE_var (i := 7) (by kernel_rfl) (by kernel_rfl) (by kernel_rfl)) SEs_nil (by kernel_rfl)) (by kernel_rfl) (by kernel_rfl) (by kernel_rfl)) (by kernel_rfl)))))))) (SSs_cons (SS_ret SE_bool) SSs_nil) SSs_nil) (SSs_cons (SS_app (i := 5) (by kernel_rfl) (by kernel_rfl) (by kernel_rfl) (SE_var (i := 8) (by kernel_rfl) (by kernel_rfl) (by kernel_rfl)) (by kernel_rfl) (by kernel_rfl)) SSs_nil))))) (by kernel_rfl)) (SSs_freeze (i := 5) (x := "_law_places") (by kernel_rfl) (by kernel_rfl) (SSs_cons (SS_asg (i := 6) (by kernel_rfl) (by kernel_rfl) (SE_lst (SL_disp (SEs_cons (SE_lst (SL_list H.gnd (SE_var (i := 5) (by kernel_rfl) (by kernel_rfl) (by kernel_rfl)) (by kernel_rfl) (by kernel_rfl))) (SEs_cons (SE_lst (SL_list H.gnd (SE_var (i := 4) (by kernel_rfl) (by kernel_rfl) (by kernel_rfl)) (by kernel_rfl) (by kernel_rfl))) SEs_nil (by kernel_rfl)) (by kernel_rfl)))) (by kernel_rfl)) (SSs_cons (SS_asg (i := 7) (by kernel_rfl) (by kernel_rfl) (SE_call H.gnd H.held_is.isFn (SEs_cons (SE_var (i := 1) (by kernel_rfl) (by kernel_rfl) (by kernel_rfl)) (SEs_cons (SE_idx (SE_var (i := 6) (by kernel_rfl) (by kernel_rfl) (by kernel_rfl)) SE_int (by kernel_rfl)) (SEs_cons (SE_idx (SE_var (i := 6) (by kernel_rfl) (by kernel_rfl) (by kernel_rfl)) SE_int (by kernel_rfl)) SEs_nil (by kernel_rfl)) (by kernel_rfl)) (by kernel_rfl)) (by kernel_rfl) (by kernel_rfl) (by kernel_rfl)) (by kernel_rfl)) (SSs_cons (SS_if (ST_or (ST_cmp rfl (SE_var (i := 6) (by kernel_rfl) (by kernel_rfl) (by kernel_rfl)) (SE_lst (SL_disp (SEs_cons (SE_var (i := 5) (by kernel_rfl) (by kernel_rfl) (by kernel_rfl)) (SEs_cons (SE_var (i := 4) (by kernel_rfl) (by kernel_rfl) (by kernel_rfl)) SEs_nil (by kernel_rfl)) (by kernel_rfl)))) (by kernel_rfl)) (ST_or (ST_not (ST_plain (SE_islist H.gnd (SE_var (i := 7) (by kernel_rfl) (by kernel_rfl) (by kernel_rfl)) (by kernel_rfl) (by kernel_rfl) (by kernel_rfl)) (by kernel_rfl))) (ST_one_or (ST_cmp rfl (SE_lst (SL_comp (comp_of (by kernel_rfl)) (tgtL_of (by kernel_rfl)) (SI_seq (SE_var (i := 7) (by kernel_rfl) (by kernel_rfl) (by kernel_rfl))) (SE_var (i := 12) (by kernel_rfl) (by kernel_rfl) (by kernel_rfl)) (CondOk.one (ST_not (ST_plain (SE_call H.gnd H.law_whole_is.isFn (SEs_cons (SE_var (i := 12) (by kernel_rfl) (by kernel_rfl) (by kernel_rfl)) SEs_nil (by kernel_rfl)) (by kernel_rfl) (by kernel_rfl) (by kernel_rfl)) (by kernel_rfl)))) (by kernel_rfl))) (SE_lst (SL_disp SEs_nil)) (by kernel_rfl))))) (SSs_cons (SS_ret SE_bool) SSs_nil) SSs_nil) (SSs_cons (SS_asgM (i := 8) (by kernel_rfl) (by kernel_rfl) (SL_rep SE_int (SE_var (i := 1) (by kernel_rfl) (by kernel_rfl) (by kernel_rfl)) (by kernel_rfl)) (by kernel_rfl)) (SSs_cons (SS_for (tgt_of (by kernel_rfl)) (SI_range H.gnd (SE_len H.gnd (SE_var (i := 5) (by kernel_rfl) (by kernel_rfl) (by kernel_rfl)) (by kernel_rfl) (by kernel_rfl)) (by kernel_rfl) (by kernel_rfl)) (SSs_cons (SS_if (ST_cmp rfl (SE_idx (SE_var (i := 5) (by kernel_rfl) (by kernel_rfl) (by kernel_rfl)) (SE_var (i := 9) (by kernel_rfl) (by kernel_rfl) (by kernel_rfl)) (by kernel_rfl)) SE_none (by kernel_rfl)) (SSs_cons (SS_setI (i := 8) (by kernel_rfl) (by kernel_rfl) (by kernel_rfl) (SE_borrow (by kernel_rfl) (SE_bin rfl (SE_idx (SE_var (i := 8) (by kernel_rfl) (by kernel_rfl) (by kernel_rfl)) (SE_idx (SE_var (i := 5) (by kernel_rfl) (by kernel_rfl) (by kernel_rfl)) (SE_var (i := 9) (by kernel_rfl) (by kernel_rfl) (by kernel_rfl)) (by kernel_rfl)) (by kernel_rfl)) (SE_idx (SE_var (i := 4) (by kernel_rfl) (by kernel_rfl) (by kernel_rfl)) (SE_var (i := 9) (by kernel_rfl) (by kernel_rfl) (by kernel_rfl)) (by kernel_rfl)))) (SE_idx (SE_var (i := 5) (by kernel_rfl) (by kernel_rfl) (by kernel_rfl)) (SE_var (i := 9) (by kernel_rfl) (by kernel_rfl) (by kernel_rfl)) (by kernel_rfl)) (by kernel_rfl)) SSs_nil) SSs_nil) SSs_nil) (by kernel_rfl)) (SSs_cons (SS_ret (SE_borrow (by kernel_rfl) (SE_cmp rfl (SE_var (i := 7) (by kernel_rfl) (by kernel_rfl) (by kernel_rfl)) (SE_var (i := 8) (by kernel_rfl) (by kernel_rfl) (by kernel_rfl)) (by kernel_rfl)))) SSs_nil)))))))))))))
theorem call_law {X : Cx} (H : Has X) {n : Nat} {d0 : D} {σ : Sg} {Q : D → Sg → Prop} (h : mExecs X n m_law [.val d0, .unb, .unb, .unb, .unb, .unb, .unb, .unb, .unb, .unb, .unb, .unb, .unb] σ (fun fl _ σ' => (∀ b, σ b ≠ none → σ' b ≠ none) ∧ Q (flD fl) σ')) :
    CallSem X (n + 1) "law" [d0] σ Q := call_intro H.gnd (sq_law ▸ bq_law ▸ H.law_is) (ScOk.of sc_law) (ok_law H) rfl h

end Mine.L03
set_option maxRecDepth 100000
namespace Mine.L03
open PySem PyProof.Rows
local macro_rules | `(tactic| walk_at "m1") => `(tactic| simp only [mEvals, mCond, E.cst, E.var, E.bin, E.neg, E.cmp, E.cmp2, E.and_, E.or_, E.not_, E.lst, E.tupE, E.idx, E.call, E.bi, E.borrow, L.disp, L.ofSeq, L.rep, L.upto, L.from_, L.comp, L.cat, L.borrow, It.seq, It.range, It.zip, It.enum, S.asg, S.asgM, S.unp, S.app, S.appPop, S.setI, S.iff, S.for_, S.ret, S.expr, S.pass, S.freeze, q_val, q_mt, q_int, q_lst, q_tup, q_li, q_ll, q_one, q_onet, b_add, b_sub, b_mul, b_div, b_mod, c_lt, c_le, c_gt, c_ge, c_eq, c_ne, c_is, c_isn, cond_bool, not_bool, i_ints, i_0, i_1, t_0, t_1, f_len, f_lenT, f_sum, f_max2, f_min2, f_isint, f_isbool, f_islist,
  f_istup, keepS, setAll, frzAll, at_b, at_i, flD, List.getD_cons_zero, List.getD_cons_succ, List.set_cons_zero, List.set_cons_succ, List.length_cons, List.length_nil, Nat.zero_add, List.length_map, true_and, and_true, decide_eq_true_eq, Bool.not_eq_true', decide_eq_false_iff_not, map_headD, ms_nil, if_true, if_false, reduceCtorEq, Bool.not_true, Bool.not_false, Bool.false_eq_true])

theorem hasCell {X : Cx} (H : Has X) : HasCell X := fun hl h0 h1 q => call_law_cell H (cell_spec hl h0 h1 q)
theorem hasWhole {X : Cx} (H : Has X) : HasWhole X := fun q => call_law_whole H (whole_spec q)
theorem hasWeight {X : Cx} (H : Has X) : HasWeight X := fun h0 h1 q => call_law_weight H (weight_spec h0 h1 q)
theorem hasRow {X : Cx} (H : Has X) : HasRow X := fun hk q => call_law_row H (row_spec hk q)
theorem hasPlace {X : Cx} (H : Has X) : HasPlace X := fun q => call_place_of H (place_spec q)
theorem hasHeld {X : Cx} (H : Has X) : HasHeld X := fun hk hin q => call_held H (held_spec hk hin q)
theorem hasCand {X : Cx} (H : Has X) : HasCand X := fun hl q => call_law_candidates H (candidates_spec (hasCell H) hl q)
theorem hasBal {X : Cx} (H : Has X) : HasBal X := fun hl hk q => call_law_ballots H (ballots_spec (hasCell H) (hasWeight H) (hasRow H) hl hk q)
variable {X : Cx} {n : Nat} {σ : Sg}

theorem standing_spec (H : Has X) {c : Int} {k : Nat} {Q : D → Sg → Prop} (hk : k ≤ 1000) (q : ∀ st : List Int, (∀ x ∈ st, 0 ≤ x ∧ x < (k : Int)) → st.length ≤ k → Q (.lst (st.map D.int)) σ) : CallSem X (n + 1) "_law_standing" [.int c, .int k] σ Q := by
  apply call_law_standing H
  simp only [m_law_standing]
  rw [ms_cons]
  walk_at "m1"
  refine ⟨by omega, ?_⟩
  rw [ms_cons]
  walk_at "m1"
  refine ⟨by omega, by omega, ?_⟩
  refine for_inv (fun j ρ σ' => σ' = σ ∧ ∃ (c' : Int) (a : MV) (st : List Int), ρ = [.val (.int c'), .val (.int k), .mt (st.map D.int), a] ∧ (∀ x ∈ st, 0 ≤ x ∧ x < (j : Int)) ∧ st.length ≤ j) ?_ ?_ ?_
  · exact ⟨rfl, c, .unb, [], rfl, by simp, by simp⟩
  · rintro j hj ρ σ' ⟨rfl, c', a, st, rfl, hin, hlen⟩
    simp only [List.length_map, List.length_range, Int.toNat_natCast] at hj
    simp only [List.getElem_map, List.getElem_range, b_law_standing_1]
    rw [ms_cons]
    walk_at "m1"
    refine ⟨by omega, ?_⟩
    split
    · rw [ms_cons]
      walk_at "m1"
      refine ⟨by omega, ?_⟩
      rw [ms_cons]
      walk_at "m1"
      refine ⟨by omega, ⟨by omega, by omega⟩, c'.fdiv 2, .val (.int j), st ++ [(j : Int)], by simp, ?_, by simp; omega⟩
      intro x hx
      rcases List.mem_append.mp hx with hx | hx
      · have := hin x hx; omega
      · rw [List.mem_singleton.mp hx]; omega
    · rw [ms_cons]
      walk_at "m1"
      exact ⟨by omega, ⟨by omega, by omega⟩, c'.fdiv 2, .val (.int j), st, rfl, fun x hx => by have := hin x hx; omega, by omega⟩
  · rintro ρ σ' ⟨rfl, c', a, st, rfl, hin, hlen⟩
    simp only [List.length_map, List.length_range, Int.toNat_natCast] at hin hlen
    rw [ms_cons]
    walk_at "m1"
    rw [ms_cons]
    walk_at "m1"
    exact q st hin hlen

theorem first_spec (H : Has X) {row st : List Int} {Q : D → Sg → Prop} (q : Q (dO (placeV row st)) σ) : CallSem X (n + 1) "_law_first" [.lst (row.map D.int), .lst (st.map D.int)] σ Q := by
  apply call_law_first H
  simp only [m_law_first]
  rw [ms_cons]
  walk_at "m1"
  refine for_inv (fun j ρ σ' => σ' = σ ∧ ∃ (a b : MV), ρ = [.val (.lst (row.map D.int)), .val (.lst (st.map D.int)), a, b] ∧ ∀ x ∈ row.take j, decide (x ∈ st) = false) ?_ ?_ ?_
  · exact ⟨rfl, .unb, .unb, rfl, by simp⟩
  · rintro j hj ρ σ' ⟨rfl, a, b, rfl, hx⟩
    simp only [List.length_map] at hj
    simp only [List.getElem_map, b_law_first_2]
    rw [ms_cons]
    walk_at "m1"
    refine for_inv (fun i ρ σ'' => σ'' = σ' ∧ ∃ (b : MV), ρ = [.val (.lst (row.map D.int)), .val (.lst (st.map D.int)), .val (.int row[j]), b] ∧ ∀ x ∈ st.take i, row[j] ≠ x) ?_ ?_ ?_
    · exact ⟨rfl, b, rfl, by simp⟩
    · rintro i hi ρ σ'' ⟨rfl, b, rfl, hy⟩
      simp only [List.length_map] at hi
      simp only [List.getElem_map, b_law_first_1]
      rw [ms_cons]
      walk_at "m1"
      split
      · rename_i he
        rw [ms_cons]
        walk_at "m1"
        have : placeV row st = some row[j] := find_at hj hx (by rw [he]; simp)
        rw [this] at q
        exact q
      · rename_i he
        refine ⟨_, rfl, fun x hx' => ?_⟩
        rw [← List.take_append_getElem hi] at hx'
        rcases List.mem_append.mp hx' with hx' | hx'
        · exact hy x hx'
        · rw [List.mem_singleton.mp hx']; exact he
    · rintro ρ σ'' ⟨rfl, b, rfl, hy⟩
      simp only [List.length_map, List.take_length] at hy
      refine ⟨rfl, _, _, rfl, fun x hx' => ?_⟩
      rw [← List.take_append_getElem hj] at hx'
      rcases List.mem_append.mp hx' with hx' | hx'
      · simpa using hx x hx'
      · rw [List.mem_singleton.mp hx']
        intro hm
        exact hy _ hm rfl
  · rintro ρ σ' ⟨rfl, a, b, rfl, hx⟩
    simp only [List.length_map, List.take_length] at hx
    rw [ms_cons]
    walk_at "m1"
    have : placeV row st = none := find_not hx
    rw [this] at q
    exact q

theorem plain_dO (p : Option Int) : (dO p).plain = true := by cases p <;> simp [dO, D.plain]
theorem plains_dO (ps : List (Option Int)) : D.plains (ps.map dO) = true := plains_all fun d hd => by
  obtain ⟨p, _, rfl⟩ := List.mem_map.mp hd
  exact plain_dO p
theorem ok_dO (n : Nat) (p : Option Int) : D.ok n (dO p) = true := by cases p <;> cases n <;> rfl
theorem ok_dOs (n : Nat) (ps : List (Option Int)) : D.ok (n + 1) (.lst (ps.map dO)) = true := by
  simp only [D.ok, List.all_eq_true]
  intro d hd
  obtain ⟨p, _, rfl⟩ := List.mem_map.mp hd
  exact ok_dO n p
theorem i_dO {ps : List (Option Int)} {j : Nat} {Q : D → Prop} (hj : j < ps.length) (hb : j < 1000) (q : Q (dO ps[j])) : idxT (.lst (ps.map dO)) (.int j) Q := by
  rw [i_lst]
  exact ⟨by omega, by omega, dO ps[j], by simp [hj], q⟩

theorem law_spec (H : Has X) {ns : List Int} (hl : ns.length ≤ 63) : CallSem X (n + 1 + 1 + 1) "law" [.lst (ns.map D.int)] σ (fun d _ => d = .bool true) := by
  apply call_law H
  simp only [m_law]
  rw [ms_cons]
  walk_at "m1"
  refine hasCand H hl fun k hk0 hk1 => ?_
  rw [ms_cons]
  walk_at "m1"
  refine hasBal H hl (by omega) fun B hB => ?_
  have hBl := hB.len
  rw [ms_cons]
  walk_at "m1"
  refine hasCell H hl (by omega) (by omega) ?_
  refine standing_spec H (by omega) fun st hst hstl => ?_
  rw [ms_cons]
  walk_at "m1"
  refine rows2 ⟨by simp; omega, ?_⟩
  generalize hls : (B.map fun b => b.1 - (cellV ns 5).fmod b.1) = ls
  have hlsl : ls.length = B.length := by rw [← hls]; simp
  refine comp_map (fun _ => true) (fun r => match r with | [.int w, _] => .int (w - (cellV ns 5).fmod w) | _ => .none) (fun r _ K h => h) (fun r hr _ K h => ?_) ?_
  · obtain ⟨b, hb, rfl⟩ := List.mem_map.mp hr
    have := hB.wt b hb
    simp only [e_law_1] at h ⊢
    walk_at "m1"
    refine hasCell H hl (by omega) (by omega) ?_
    walk_at "m1"
    exact ⟨by omega, h⟩
  have e : List.map (fun r : List D => match r with | [.int w, _] => D.int (w - (cellV ns 5).fmod w) | _ => .none) (List.filter (fun _ => true) (B.map fun b => [.int b.1, .lst (b.2.map D.int)])) = ls.map D.int := by
    rw [filter_all, ← hls, List.map_map, List.map_map]
    rfl
  rw [e]
  rw [ms_cons]
  walk_at "m1"
  refine ⟨by omega, ?_⟩
  rw [ms_cons]
  walk_at "m1"
  refine rows2 ?_
  refine for_inv (fun j ρ σ' => σ' = σ ∧ ∃ (a6 a7 a8 a10 a11 : MV), ρ = [.val (.lst (ns.map D.int)), .val (.int k), .val (.lst (dB B)), .val (.lst (st.map D.int)), .val (.lst (ls.map D.int)), .mt (((B.take j).map fun b => placeV b.2 st).map dO), a6, a7, a8, .unb, a10, a11, .unb]) ?_ ?_ ?_
  · exact ⟨rfl, .unb, .unb, .unb, .unb, .unb, rfl⟩
  · rintro j hj ρ σ' ⟨rfl, a6, a7, a8, a10, a11, rfl⟩
    simp only [List.length_map] at hj
    have hb := List.getElem_mem hj
    have hrow := (hB.row _ hb).len
    simp only [List.getElem_map, b_law_1]
    rw [ms_cons]
    walk_at "m1"
    refine ⟨by omega, by omega, by omega, ?_⟩
    rw [ms_cons]
    walk_at "m1"
    refine hasPlace H ?_
    rw [ms_cons]
    walk_at "m1"
    refine first_spec H ?_
    rw [ms_cons]
    walk_at "m1"
    have pl : (D.lst [.lst (B[j].2.map D.int), .lst (st.map D.int)]).plain = true := by simp [D.plain, D.plains, plains_ints]
    have ok : D.ok 8 (.lst [.lst (B[j].2.map D.int), .lst (st.map D.int)]) = true := by
      simp only [D.ok, List.all_cons, List.all_nil, Bool.and_true, Bool.and_eq_true]
      exact ⟨ok_ints 6 _, ok_ints 6 st⟩
    simp only [c_nex, ok, eqv_self pl, eqv_self (plain_dO _), ok_dO, true_and, Bool.not_true, cond_bool, Bool.false_eq_true, if_false]
    refine ⟨by omega, ?_⟩
    have fin : mExecs X (n + 1 + 1) [.app 5 (.var 8)] [.val (.lst (ns.map D.int)), .val (.int k), .val (.lst (dB B)), .val (.lst (st.map D.int)), .val (.lst (ls.map D.int)), .mt (((B.take j).map fun b => placeV b.2 st).map dO), .val (.lst [.lst (B[j].2.map D.int), .lst (st.map D.int)]), .val (dO (placeV B[j].2 st)), .val (dO (placeV B[j].2 st)), .unb, .val (.int B[j].1), .val (.lst (B[j].2.map D.int)), .unb] σ'
        fun fl ρ' σ'' => match fl with
          | .next => σ'' = σ' ∧ ∃ (a6 a7 a8 a10 a11 : MV), ρ' = [.val (.lst (ns.map D.int)), .val (.int k), .val (.lst (dB B)), .val (.lst (st.map D.int)), .val (.lst (ls.map D.int)), .mt (((B.take (j + 1)).map fun b => placeV b.2 st).map dO), a6, a7, a8, .unb, a10, a11, .unb]
          | .ret d => (∀ b, σ' b ≠ none → σ'' b ≠ none) ∧ flD (.ret d) = .bool true := by
      rw [ms_cons]
      walk_at "m1"
      have e : ((B.take (j + 1)).map fun b => placeV b.2 st).map dO = ((B.take j).map fun b => placeV b.2 st).map dO ++ [dO (placeV B[j].2 st)] := by
        rw [← List.take_append_getElem hj, List.map_append, List.map_append]
        rfl
      rw [e]
      exact ⟨by simp; omega, _, _, _, _, _, rfl⟩
    cases hp : placeV B[j].2 st with
    | none =>
      rw [hp] at fin
      simp only [dO, D.isNone, Bool.not_true, Bool.false_eq_true, if_false, ms_nil]
      exact fin
    | some c =>
      rw [hp] at fin
      simp only [dO, D.isNone, Bool.not_false, if_true]
      refine hasWhole H ?_
      simp only [not_bool, cond_bool, Bool.not_true, Bool.false_eq_true, if_false, ms_nil]
      exact fin
  · rintro ρ σ' ⟨rfl, a6, a7, a8, a10, a11, rfl⟩
    rw [List.length_map, List.take_length]
    generalize hps : (B.map fun b => placeV b.2 st) = ps
    have hpsl : ps.length = B.length := by rw [← hps]; simp
    have hin : ∀ p ∈ ps, ∀ c, p = some c → 0 ≤ c ∧ c < (k : Int) := by
      intro p hp c hc
      rw [← hps] at hp
      obtain ⟨b, hb, rfl⟩ := List.mem_map.mp hp
      exact (hB.row b hb).inn c (placeV_in hc).1
    rw [ms_cons]
    walk_at "m1"
    rw [ms_cons]
    walk_at "m1"
    refine ⟨by omega, by omega, by omega, ?_⟩
    rw [ms_cons]
    walk_at "m1"
    refine hasHeld H (by omega) hin ?_
    rw [ms_cons]
    walk_at "m1"
    have pl : (D.lst [.lst (ps.map dO), .lst (ls.map D.int)]).plain = true := by simp [D.plain, D.plains, plains_ints, plains_dO]
    have ok : D.ok 8 (.lst [.lst (ps.map dO), .lst (ls.map D.int)]) = true := by
      simp only [D.ok, List.all_cons, List.all_nil, Bool.and_true, Bool.and_eq_true]
      exact ⟨ok_dOs 6 _, ok_ints 6 _⟩
    have hhl := heldL_len k (ps.zip ls)
    simp only [c_nex, ok, eqv_self pl, true_and, Bool.not_true, cond_bool, Bool.false_eq_true, if_false]
    refine ⟨by omega, by omega, ?_⟩
    refine comp_map (fun _ => false) (fun r => match r with | [d] => d | _ => .none) (fun r hr K h => ?_) (fun r hr hp K h => by cases hp) ?_
    · simp only [List.map_map, List.mem_map] at hr
      obtain ⟨x, _, rfl⟩ := hr
      simp only [p_law_1, Function.comp]
      walk_at "m1"
      refine hasWhole H ?_
      simp only [not_bool, Bool.not_true]
      exact h
    have ef : List.filter (fun (_ : List D) => false) (((heldL k (ps.zip ls)).map D.int).map fun d => [d]) = [] := List.filter_eq_nil_iff.mpr (by simp)
    rw [ef]
    have e2 := eqv_ints [] []
    simp only [List.map_nil] at e2
    simp only [List.map_nil, e2, decide_true, Bool.not_true, Bool.false_eq_true, if_false, ms_nil]
    refine ⟨by omega, rfl, rfl, ?_⟩
    rw [ms_cons]
    walk_at "m1"
    refine ⟨by omega, by omega, ?_⟩
    have e0 : List.replicate (k : Int).toNat (D.int 0) = (heldL k []).map D.int := by simp [heldL]
    rw [e0]
    rw [ms_cons]
    walk_at "m1"
    refine ⟨by omega, by omega, by omega, ?_⟩
    refine for_inv (fun j ρ σ'' => σ'' = σ' ∧ ∃ (a : MV), ρ = [.val (.lst (ns.map D.int)), .val (.int k), .val (.lst (dB B)), .val (.lst (st.map D.int)), .val (.lst (ls.map D.int)), .val (.lst (ps.map dO)), .val (.lst [.lst (ps.map dO), .lst (ls.map D.int)]), .val (.lst ((heldL k (ps.zip ls)).map D.int)), .mt ((heldL k ((ps.zip ls).take j)).map D.int), a, a10, a11, .unb]) ?_ ?_ ?_
    · exact ⟨rfl, .unb, rfl⟩
    · rintro j hj ρ σ'' ⟨rfl, a, rfl⟩
      simp only [List.length_map, List.length_range, Int.toNat_natCast] at hj
      simp only [List.getElem_map, List.getElem_range, b_law_2]
      have hjz : j < (ps.zip ls).length := by rw [List.length_zip]; omega
      rw [heldL_take hjz]
      have hlen := heldL_len k ((ps.zip ls).take j)
      generalize heldL k ((ps.zip ls).take j) = acc at hlen
      have hz : (ps.zip ls)[j] = (ps[j], ls[j]) := List.getElem_zip
      have hmem : ps[j] ∈ ps := List.getElem_mem hj
      rw [hz]
      rw [ms_cons]
      walk_at "m1"
      refine i_dO hj (by omega) ?_
      cases hp : ps[j] with
      | none =>
        simp only [dO, D.isNone, c_isn, cond_bool, Bool.not_true, Bool.false_eq_true, if_false, ms_nil]
        exact ⟨_, rfl⟩
      | some c =>
        have hc := hin _ hmem c hp
        simp only [dO, D.isNone, c_isn, cond_bool, Bool.not_false, if_true]
        rw [ms_cons]
        walk_at "m1"
        refine ⟨by omega, i_dO hj (by omega) ?_⟩
        rw [hp]
        simp only [dO, i_ints, b_add, at_i, true_and]
        refine ⟨hc.1, by omega, by omega, by omega, by omega, by omega, i_dO hj (by omega) ?_⟩
        rw [hp]
        refine ⟨c, rfl, hc.1, by omega, ?_⟩
        have e : heldT acc (some c, ls[j]) = acc.set c.toNat (acc.getD c.toNat 0 + ls.getD j 0) := by
          have hjl : j < ls.length := by omega
          simp only [heldT, List.getD, List.getElem?_eq_getElem hjl, Option.getD_some]
        rw [set_ints, e]
        exact ⟨_, rfl⟩
    · rintro ρ σ'' ⟨rfl, a, rfl⟩
      simp only [List.length_map, List.length_range, Int.toNat_natCast]
      have ht : (ps.zip ls).take ps.length = ps.zip ls := List.take_of_length_le (by rw [List.length_zip]; omega)
      rw [ht]
      rw [ms_cons]
      walk_at "m1"
      simp only [c_eqx, eqv_ints, decide_true]
      exact ⟨ok_ints 7 _, ok_ints 7 _, by simp [at_b]⟩
end Mine.L03
open PySem PySem.W PyProof.Rows
set_option maxRecDepth 100000 in
set_option maxHeartbeats 8000000 in
theorem PySem.Challenge.cw_uf060016_03_holds : PySem.Challenge.rw_uf060016_03.Holds := by
  w_on
  o_law
  k_head
  (case hw => w_witness2)
  intro w s₀ s₁ mg mb G Y fa o pm cd doc dV kV ho hd hcd hD hmg hg args vals as hpre hlay hrd hwl hlo
  refine Ground.open G ?_
  intro T B D TE TW
  wrow_args hpre hlay hrd hwl hlo
  rename_i hL _ _ _ hI _ _ hlen
  have H : Mine.L03.Has ⟨PySem.Challenge.rw_uf060016_03.row.toRowW.prog, w, s₁.heap, mg, mb⟩ := {
    gnd := Mine.gnd_of_top T (by decide +kernel)
    place_of_is := Mine.fnIs_of_top (f := "place_of") (ps := ["row", "standing"]) T (by kernel_rfl) (by decide +kernel)
    held_is := Mine.fnIs_of_top (f := "held") (ps := ["candidates", "places", "left"]) T (by kernel_rfl) (by decide +kernel)
    law_cell_is := Mine.fnIs_of_top (f := "_law_cell") (ps := ["_law_script", "_law_k"]) T (by kernel_rfl) (by decide +kernel)
    law_whole_is := Mine.fnIs_of_top (f := "_law_whole") (ps := ["_law_found"]) T (by kernel_rfl) (by decide +kernel)
    law_row_is := Mine.fnIs_of_top (f := "_law_row") (ps := ["_law_cell_here", "_law_candidates_here"]) T (by kernel_rfl) (by decide +kernel)
    law_weight_is := Mine.fnIs_of_top (f := "_law_weight") (ps := ["_law_cell_here", "_law_kind"]) T (by kernel_rfl) (by decide +kernel)
    law_candidates_is := Mine.fnIs_of_top (f := "_law_candidates") (ps := ["_law_script"]) T (by kernel_rfl) (by decide +kernel)
    law_ballots_is := Mine.fnIs_of_top (f := "_law_ballots") (ps := ["_law_script", "_law_candidates_here"]) T (by kernel_rfl) (by decide +kernel)
    law_copy_is := Mine.fnIs_of_top (f := "_law_copy") (ps := ["_law_ballots_here"]) T (by kernel_rfl) (by decide +kernel)
    law_standing_is := Mine.fnIs_of_top (f := "_law_standing") (ps := ["_law_number", "_law_candidates_here"]) T (by kernel_rfl) (by decide +kernel)
    law_first_is := Mine.fnIs_of_top (f := "_law_first") (ps := ["_law_row_here", "_law_standing_here"]) T (by kernel_rfl) (by decide +kernel)
    law_is := Mine.fnIs_of_top (f := "law") (ps := ["_law_script"]) T (by kernel_rfl) (by decide +kernel) }
  refine Mine.law_ends (k := 20) (by decide) hmg hL hI ((Mine.L03.law_spec (n := 0) H (by omega)).le (by decide)) fun h' tk hk => ?_
  refine ⟨.inl ⟨.bool true, .bool true, [], rfl, ?_, .bool true, ?_, ?_⟩, .of_keep hk, rfl, .of_eq hg⟩
  · intro cls; rfl
  · kernel_rfl
  · intro _; exact ⟨by simp, fun _ h => by cases h⟩

