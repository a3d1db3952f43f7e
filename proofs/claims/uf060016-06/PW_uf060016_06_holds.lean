import PyProof.Rows.All
import PyProof.CompFree
import PyProof.WalksMore
import PyProof.WalksPairs
import PyProof.WalksEnum
import PyProof.ZipIter
import PyProof.ForAny
import PyProof.DefCall
import PyProof.Cells
import PyProof.Ns1
import PyProof.Dict
import PyProof.Rows.Nodes
import PyProof.P3Statements
import PyProof.Rows.RuleB_mul
import PyProof.Rows.RuleB_mod
import PyProof.Rows.RuleB_floordiv
import PyProof.Rows.RuleB_sub
import PyProof.Rows.RuleC_int
import PyProof.Rows.RuleU_int
import PyProof.Rows.IntRules
import PyProof.Rows.Chain
import PyProof.Rows.EqDataRows
import PyProof.Rows.TupSub
import PyProof.Rows.StrTemp
import PyProof.Rows.Own
import PyProof.Rules3
import PyProof.P3In
import PyProof.Rows.Globals
import PyProof.Rows.Exc
import PyProof.Rows.SumAny
import PyProof.IsiPairs
import PyProof.IsiSeqPairs
import PyProof.IsiNone
import PyProof.ListCopy
import PyProof.ListRange
import PyProof.TupleOfSeq
import PyProof.SliceList
import PyProof.Rows.SeqMore
import PyProof.Rows.ListMul
import PyProof.WalkInts
import PyProof.SliceMore
import PyProof.ForRange
import PyProof.Rows.Method
import PyProof.MeetsSeq
import PyProof.Methods
import PyProof.Rows.TupAssign
import PyProof.Raises
import PyProof.TupleIter
import PyProof.CompUse
import PyProof.EnumMake
import PyProof.Rows.ZipGen
import PyProof.Rows.CellsNews
import Wide.BridgeG
import Open.Line
import OpenK.KWalk
import OpenK.KMake
import OpenK.KCls
import PyProof.AssignAttr
import PyProof.Rows.AttrNode
import PyProof.NsCount
import PyProof.Rows.SeqMore2
import PyProof.Conv_int_bool
import PyProof.Rows.SortWalk
import PyProof.AutoSeq1
import Wide.All
import Wide.FinOn
import Lean
import PySem.Challenge.RW_uf060016_06
set_option Elab.async false
set_option linter.unusedVariables false
set_option linter.unusedSimpArgs false
set_option maxRecDepth 100000
set_option maxHeartbeats 4000000
set_option compiler.extract_closed false
set_option bootstrap.genMatcherCode false
set_option genSizeOf false
set_option genSizeOfSpec false
set_option genInjectivity false
set_option tactic.hygienic false
namespace Mine
open PySem PyProof.Rows
theorem oo1 (n : Nat) : (0 : Int) ≤ (n : Int) := Int.natCast_nonneg n
theorem oo2 (n : Nat) : -(2 ^ 62) ≤ (n : Int) := Int.le_trans (by decide) (oo1 n)
theorem oo3 {a b c : Nat} (h : a ≤ b) (hb : Nat.ble b c = true := by decide) : a ≤ c := Nat.le_trans h (Nat.le_of_ble_eq_true hb)
theorem oo4 {a b c : Nat} (h : a ≤ b) (hb : Nat.ble (b + 1) c = true := by decide) : a < c := Nat.lt_of_le_of_lt h (Nat.le_of_ble_eq_true hb)
theorem zb {a b : Nat} (h : a ≤ b) (hb : Nat.ble b 1000000 = true) : (a : Int) ≤ 1000000 := Int.ofNat_le.mpr (oo3 h hb)
theorem oo5 {a b : Nat} (h : a ≤ b) (hb : Nat.ble b 1000000 = true := by decide) : (a : Int) < 2 ^ 62 := Int.lt_of_le_of_lt (zb h hb) (by decide)
theorem oo6 {a b : Nat} (h : a ≤ b) (hb : Nat.ble b 1000000 = true := by decide) : (a : Int) < 2 ^ 63 := Int.lt_of_le_of_lt (zb h hb) (by decide)
theorem oo7 {a b c : Nat} (h : a < b) (h' : b ≤ c) (hb : Nat.ble c 1000000 = true := by decide) : (a : Int) < 2 ^ 63 := oo6 (Nat.le_trans (Nat.le_of_lt h) h') hb
theorem oo8 {a b : Nat} (h : a ≤ b) (hb : Nat.ble b 1000000 = true := by decide) : (a : Int) ≤ 2 ^ 20 := Int.le_trans (zb h hb) (by decide)
theorem oo9 {a b c d : Nat} (e : a = b) (h : b ≤ c) (hb : Nat.ble c d = true := by decide) : a ≤ d := oo3 (e ▸ h) hb
theorem ooa {a b c : Nat} (e : a = b) (h : b ≤ c) (hb : Nat.ble c 1000000 = true := by decide) : (a : Int) < 2 ^ 62 := oo5 (e ▸ h) hb
theorem oob {a b c d : Nat} (h : a < b) (h' : b ≤ c) (hb : Nat.ble c d = true := by decide) : a < d := Nat.lt_of_lt_of_le h (oo3 h' hb)
theorem ooc {a b c d : Nat} (h : a ≤ b) (h' : b ≤ c) (hb : Nat.ble c d = true := by decide) : a ≤ d := Nat.le_trans h (oo3 h' hb)
theorem ood {a b : Nat} (h : a < b) : (a : Int) < (b : Int) := Int.ofNat_lt.mpr h
theorem ooe {a b c : Nat} (h : a < b) (e : c = b) : a < c := e ▸ h
theorem oog {a b c : Nat} (h : a < b) (e : b = c) : a < c := e ▸ h
theorem ooh {a b c d e : Nat} (h : a = b) (h' : b = c) (h'' : c ≤ d) (hb : Nat.ble d e = true := by decide) : a ≤ e := oo3 (h ▸ h' ▸ h'') hb
theorem ooi {a b c d e : Nat} (h : a ≤ b) (h' : b = c) (h'' : c ≤ d) (hb : Nat.ble d e = true := by decide) : a ≤ e := Nat.le_trans h (oo9 h' h'' hb)
theorem ooj {a b c d e : Nat} (h : a < b) (h' : b = c) (h'' : c ≤ d) (hb : Nat.ble d e = true := by decide) : a < e := Nat.lt_of_lt_of_le h (oo9 h' h'' hb)
theorem ook {a b c d : Nat} (h : a < b) (h' : b = c) (h'' : c ≤ d) (hb : Nat.ble d 1000000 = true := by decide) : (a : Int) < 2 ^ 63 := oo7 h (h' ▸ h'') hb
theorem ool {a b c d e : Nat} (h : a = b) (h' : b ≤ c) (h2 : c = d) (h3 : d ≤ e) (hb : Nat.ble e 1048576 = true := by decide) : a ≤ 2 ^ 20 := Nat.le_trans (h ▸ h') (oo9 h2 h3 hb)
theorem oon {a b : Nat} (h : a < b) (hb : Nat.ble b 1000000 = true := by decide) : (a : Int) < 2 ^ 63 := oo6 (Nat.le_of_lt h) hb
theorem oop {s : Int} (h : 1 ≤ s) : 0 ≤ s := Int.le_trans (by decide) h
theorem ooq {k : Nat} (h : 1 ≤ k) : (0 : Int) < (k : Int) := Int.ofNat_lt.mpr h
theorem oos {x : Int} {k b : Nat} (h : 0 ≤ x ∧ x < (k : Int)) (h' : k ≤ b) (hb : Nat.ble b 1000000 = true := by decide) : x < 2 ^ 63 := Int.lt_trans h.2 (oo6 h' hb)
theorem oot {a b c : Nat} (h : a < b) (e : b = c) : (a : Int) < (c : Int) := ood (e ▸ h)
theorem oou {a b c : Nat} (h : a < b) (e : c = b) : (a : Int) < (c : Int) := ood (e ▸ h)
theorem oov {a b c d : Nat} (h : a < b) (e : b = c) (e' : d = c) : a < d := e' ▸ e ▸ h
theorem oow {a b c d : Nat} (h : a < b) (h' : b ≤ c) (hb : Nat.ble c d = true := by decide) : a ≤ d := Nat.le_of_lt (oob h h' hb)
theorem oox {a b : Nat} (h : a = b) : b ≤ a := Nat.le_of_eq h.symm
theorem ooy {a b c : Nat} (h : a < b) (e : b = c) (hb : Nat.ble 1 1 = true := by decide) : a ≤ c := e ▸ Nat.le_of_lt h
theorem ooz {x : Int} {a b : Nat} (h : x < (a : Int)) (e : b = a) : x < (b : Int) := e ▸ h
set_option genInjectivity true in
inductive D where
  | none
  | bool (b : Bool)
  | int (i : Int)
  | str (x : Str)
  | tup (ds : List D)
  | lst (ds : List D)
  | ref (a : Addr)

noncomputable abbrev Fz := Addr → Option Obj

mutual
inductive Rd (Φ : Fz) : Value → D → Prop
  | none : Rd Φ Value.none D.none
  | bool (b : Bool) : Rd Φ (Value.bool b) (D.bool b)
  | int (i : Int) (t : Tok) : Rd Φ (Value.int i t) (D.int i)
  | str (x : Str) (t : Tok) : Rd Φ (Value.str x t) (D.str x)
  | tup {a : Addr} {o : Obj} {vs : Array Value} {n : Nat} {ds : List D} : Φ a = some o → o.cls = .type "tuple" → o.data = .seq vs n → RdAll Φ vs.toList ds → Rd Φ (Value.ref a) (D.tup ds)
  | lst {a : Addr} {o : Obj} {vs : Array Value} {n : Nat} {ds : List D} : Φ a = some o → o.cls = .type "list" → o.data = .seq vs n → o.dict = .none → RdAll Φ vs.toList ds → Rd Φ (Value.ref a) (D.lst ds)
  | ref (a : Addr) : Rd Φ (Value.ref a) (D.ref a)
inductive RdAll (Φ : Fz) : List Value → List D → Prop
  | nil : RdAll Φ [] []
  | cons {v : Value} {vs : List Value} {d : D} {ds : List D} : Rd Φ v d → RdAll Φ vs ds → RdAll Φ (v :: vs) (d :: ds)
end
noncomputable def Fz.le (Φ Φ' : Fz) : Prop := ∀ b o, Φ b = some o → Φ' b = some o
theorem Fz.le.refl (Φ : Fz) : Fz.le Φ Φ := fun xx xx h => h
theorem Fz.le.trans {Φ Φ' Φ'' : Fz} (h : Fz.le Φ Φ') (h' : Fz.le Φ' Φ'') : Fz.le Φ Φ'' := fun b o e => h' b o (h b o e)

mutual
theorem Rd.mono {Φ Φ' : Fz} (hs : Fz.le Φ Φ') : ∀ {v : Value} {d : D}, Rd Φ v d → Rd Φ' v d
  | _, _, .none => .none
  | _, _, .bool b => .bool b
  | _, _, .int i t => .int i t
  | _, _, .str x t => .str x t
  | _, _, .tup h c e r => .tup (hs _ _ h) c e (RdAll.mono hs r)
  | _, _, .lst h c e z r => .lst (hs _ _ h) c e z (RdAll.mono hs r)
  | _, _, .ref a => .ref a
theorem RdAll.mono {Φ Φ' : Fz} (hs : Fz.le Φ Φ') : ∀ {vs : List Value} {ds : List D}, RdAll Φ vs ds → RdAll Φ' vs ds
  | _, _, .nil => .nil
  | _, _, .cons h r => .cons (Rd.mono hs h) (RdAll.mono hs r)
end
section
variable {Φ : Fz} {v : Value} {d : D} {vs ws : List Value} {ds es : List D}
theorem RdAll.length (h : RdAll Φ vs ds) : vs.length = ds.length := by
  induction vs generalizing ds with
  | nil => cases h; rfl
  | cons v vs ih =>
    cases h with
    | cons _ r => rw [List.length_cons, List.length_cons, ih r]
theorem RdAll.append (h : RdAll Φ vs ds) (k : RdAll Φ ws es) : RdAll Φ (vs ++ ws) (ds ++ es) := by
  induction vs generalizing ds with
  | nil => cases h; exact k
  | cons v vs ih =>
    cases h with
    | cons h r => exact .cons h (ih r)
theorem RdAll.one (h : Rd Φ v d) : RdAll Φ [v] [d] := .cons h .nil
theorem RdAll.get (h : RdAll Φ vs ds) {k : Nat} {d : D} (hk : ds[k]? = some d) : ∃ v, vs[k]? = some v ∧ Rd Φ v d := by
  induction vs generalizing ds k with
  | nil => cases h; simp at hk
  | cons v vs ih =>
    cases h with
    | cons h r =>
      cases k with
      | zero => simp at hk; subst hk; exact ⟨v, rfl, h⟩
      | succ k => exact ih r (by simpa using hk)
theorem RdAll.get' (h : RdAll Φ vs ds) {k : Nat} {v : Value} (hk : vs[k]? = some v) : ∃ d, ds[k]? = some d ∧ Rd Φ v d := by
  induction vs generalizing ds k with
  | nil => simp at hk
  | cons v vs ih =>
    cases h with
    | cons h r =>
      cases k with
      | zero => simp at hk; subst hk; exact ⟨_, rfl, h⟩
      | succ k => exact ih r (by simpa using hk)
theorem RdAll.set (h : RdAll Φ vs ds) (k : Nat) (hv : Rd Φ v d) : RdAll Φ (vs.set k v) (ds.set k d) := by
  induction vs generalizing ds k with
  | nil => cases h; exact .nil
  | cons u vs ih =>
    cases h with
    | cons h r =>
      cases k with
      | zero => exact .cons hv r
      | succ k => exact .cons h (ih r k)
theorem RdAll.eraseIdx (h : RdAll Φ vs ds) (k : Nat) : RdAll Φ (vs.eraseIdx k) (ds.eraseIdx k) := by
  induction vs generalizing ds k with
  | nil => cases h; exact .nil
  | cons u vs ih =>
    cases h with
    | cons h r =>
      cases k with
      | zero => exact r
      | succ k => exact .cons h (ih r k)
theorem RdAll.take (h : RdAll Φ vs ds) (k : Nat) : RdAll Φ (vs.take k) (ds.take k) := by
  induction vs generalizing ds k with
  | nil => cases h; simp; exact .nil
  | cons u vs ih =>
    cases h with
    | cons h r =>
      cases k with
      | zero => exact .nil
      | succ k => exact .cons h (ih r k)
theorem RdAll.drop (h : RdAll Φ vs ds) (k : Nat) : RdAll Φ (vs.drop k) (ds.drop k) := by
  induction vs generalizing ds k with
  | nil => cases h; simp; exact .nil
  | cons u vs ih =>
    cases h with
    | cons h r =>
      cases k with
      | zero => exact .cons h r
      | succ k => exact ih r k
end
inductive TObj where
  | list (ds : List D)
  | inst (C dx : Addr)
  | ns (fs : List (Str × D))
  | imap (f : Int → Option D) (m : Nat)
noncomputable abbrev Sg := Addr → Option TObj

inductive OvR (Φ : Fz) : Option Value → Option D → Prop
  | no : OvR Φ none none
  | so {v : Value} {d : D} : Rd Φ v d → OvR Φ (some v) (some d)
theorem OvR.mono {Φ Φ' : Fz} {v : Option Value} {d : Option D} (hl : Fz.le Φ Φ') (h : OvR Φ v d) : OvR Φ' v d := by
  cases h with
  | no => exact .no
  | so r => exact .so (r.mono hl)
noncomputable def TRel (Φ : Fz) (h : Heap) (a : Addr) : TObj → Prop
  | .list ds => ∃ vs, h.PlainList a vs ∧ RdAll Φ vs.toList ds
  | .inst C dx => h.get? a = some { cls := .ref C, dict := some dx, data := .plain }
  | .ns fs => ∃ m, h.Ns1 a m ∧ ∀ x, OvR Φ (m x) (fs.lookup x)
  | .imap f m => ∃ v, h.IntMap a v ∧ h.DictLe a m ∧ ∀ i, OvR Φ (v i) (f i)

structure Ok (g : Heap) (σ : Sg) (Φ : Fz) (h : Heap) : Prop where
  base : ∀ b o, g.get? b = some o → h.get? b = some o ∧ σ b = none
  frz : ∀ b o, Φ b = some o → h.get? b = some o ∧ σ b = none
  trk : ∀ a t, σ a = some t → TRel Φ h a t

theorem TRel.mono {Φ Φ' : Fz} {h h' : Heap} {a : Addr} {t : TObj} (hl : Fz.le Φ Φ') (hh : ∀ o, h.get? a = some o → h'.get? a = some o) (x : TRel Φ h a t) : TRel Φ' h' a t := by
  cases t with
  | list ds =>
    obtain ⟨vs, hv, hr⟩ := x
    exact ⟨vs, hv.at hh, hr.mono hl⟩
  | inst C dx => exact hh _ x
  | ns fs =>
    obtain ⟨m, hn, hr⟩ := x
    exact ⟨m, hn.at hh, fun y => (hr y).mono hl⟩
  | imap f m =>
    obtain ⟨v, hn, hz, hr⟩ := x
    obtain ⟨o, es, ep, ho, r⟩ := hn
    exact ⟨v, ⟨o, es, ep, hh _ ho, r⟩, hz.of_same ho (hh _ ho), fun y => (hr y).mono hl⟩

theorem TRel.isSome {Φ : Fz} {h : Heap} {a : Addr} {t : TObj} (x : TRel Φ h a t) : ∃ o, h.get? a = some o := by
  cases t with
  | list ds =>
    obtain ⟨vs, ⟨n, ho⟩, _⟩ := x
    exact ⟨_, ho⟩
  | inst C dx => exact ⟨_, x⟩
  | ns fs =>
    obtain ⟨m, ⟨o, _, _, ho, _⟩, _⟩ := x
    exact ⟨o, ho⟩
  | imap f m =>
    obtain ⟨v, ⟨o, _, _, ho, _⟩, _⟩ := x
    exact ⟨o, ho⟩

structure Step (g : Heap) (s s' : Shared) (Φ Φ' : Fz) (σ σ' : Sg) : Prop where
  same : ∃ h' tk, s' = { s with heap := h', toks := tk }
  keep : ∀ b o, s.heap.get? b = some o → σ b = none → s'.heap.get? b = some o
  mono : Fz.le Φ Φ'
  ok : Ok g σ' Φ' s'.heap
  newS : ∀ a, σ' a ≠ none → σ a ≠ none ∨ s.heap.get? a = none
  newF : ∀ b, Φ' b ≠ none → Φ b ≠ none ∨ σ b ≠ none ∨ s.heap.get? b = none
  live : ∀ b, s'.heap.get? b = none → s.heap.get? b = none

section
variable {g : Heap} {s s' s'' : Shared} {Φ Φ' Φ'' : Fz} {σ σ' σ'' : Sg}
theorem Step.refl (h : Ok g σ Φ s.heap) : Step g s s Φ Φ σ σ :=
  ⟨⟨s.heap, s.toks, rfl⟩, fun xx xx e xx => e, Fz.le.refl _, h, fun xx h => .inl h, fun xx h => .inl h, fun xx h => h⟩
theorem Step.trans (x : Step g s s' Φ Φ' σ σ') (y : Step g s' s'' Φ' Φ'' σ' σ'') : Step g s s'' Φ Φ'' σ σ'' := by
  have k : ∀ b, s.heap.get? b ≠ none → σ b = none → σ' b = none := fun b hb hs => by
    cases e : σ' b with
    | none => rfl
    | some t =>
      rcases x.newS b (by rw [e]; simp) with h | h
      · exact absurd hs h
      · exact absurd h hb
  have back : ∀ b, s'.heap.get? b = none → σ b ≠ none ∨ s.heap.get? b = none := fun b hb => by
    cases e : s.heap.get? b with
    | none => exact .inr rfl
    | some o =>
      left
      intro hs
      rw [x.keep b o e hs] at hb; cases hb
  refine ⟨?_, fun b o e hs => y.keep b o (x.keep b o e hs) (k b (by rw [e]; simp) hs), x.mono.trans y.mono, y.ok, fun a ha => ?_, fun b hb => ?_, fun b hb => x.live b (y.live b hb)⟩
  · obtain ⟨h', tk, rfl⟩ := x.same
    obtain ⟨h'', tk', rfl⟩ := y.same
    exact ⟨h'', tk', rfl⟩
  · rcases y.newS a ha with h | h
    · exact x.newS a h
    · exact back a h
  · rcases y.newF b hb with h | h | h
    · exact x.newF b h
    · rcases x.newS b h with h | h
      · exact .inr (.inl h)
      · exact .inr (.inr h)
    · exact .inr (back b h)
theorem Step.tok (h : Ok g σ Φ s.heap) (t : Nat) : Step g s { s with toks := t } Φ Φ σ σ :=
  ⟨⟨s.heap, t, rfl⟩, fun xx xx e xx => e, Fz.le.refl _, h, fun xx h => .inl h, fun xx h => .inl h, fun xx h => h⟩
theorem Step.keeps (h : Ok g σ Φ s.heap) {h' : Heap} {tk : Nat} (k : ∀ b o, s.heap.get? b = some o → h'.get? b = some o) : Step g s { s with heap := h', toks := tk } Φ Φ σ σ :=
  ⟨⟨h', tk, rfl⟩, fun b o e xx => k b o e, Fz.le.refl _,
    ⟨fun b o e => ⟨k b o (h.base b o e).1, (h.base b o e).2⟩, fun b o e => ⟨k b o (h.frz b o e).1, (h.frz b o e).2⟩, fun a t e => (h.trk a t e).mono (Fz.le.refl _) (k a)⟩,
    fun xx h => .inl h, fun xx h => .inl h, fun b hb => by
      cases e : s.heap.get? b with
      | none => rfl
      | some o => rw [k b o e] at hb; cases hb⟩

noncomputable def Fz.put (Φ : Fz) (a : Addr) (o : Obj) : Fz := fun b => if b = a then some o else Φ b
theorem Fz.put_self (Φ : Fz) (a : Addr) (o : Obj) : Fz.put Φ a o a = some o := by simp [Fz.put]
theorem Fz.put_ne {Φ : Fz} {a b : Addr} {o : Obj} (h : b ≠ a) : Fz.put Φ a o b = Φ b := by simp [Fz.put, h]
theorem Fz.le_put {Φ : Fz} {a : Addr} {o : Obj} (h : Φ a = none) : Fz.le Φ (Fz.put Φ a o) := fun b o' e => by
  by_cases hb : b = a
  · subst hb; rw [h] at e; cases e
  · rw [Fz.put_ne hb]; exact e

theorem Ok.freeze {hp : Heap} (h : Ok g σ Φ hp) {a : Addr} {o : Obj} (ho : hp.get? a = some o) (hs : σ a = none) (hf : Φ a = none) : Ok g σ (Fz.put Φ a o) hp :=
  ⟨h.base, fun b o' e => by
    by_cases hb : b = a
    · subst hb; rw [Fz.put_self] at e; cases e; exact ⟨ho, hs⟩
    · rw [Fz.put_ne hb] at e; exact h.frz b o' e, fun a t e => (h.trk a t e).mono (Fz.le_put hf) fun xx x => x⟩

theorem Step.freeze (x : Step g s s' Φ Φ' σ σ') {a : Addr} {o : Obj} (hn : s.heap.get? a = none) (ho : s'.heap.get? a = some o) (hs : σ' a = none) (hf : Φ' a = none) : Step g s s' Φ (Fz.put Φ' a o) σ σ' :=
  ⟨x.same, x.keep, x.mono.trans (Fz.le_put hf), x.ok.freeze ho hs hf, x.newS, fun b hb => by
    by_cases h : b = a
    · subst h; exact .inr (.inr hn)
    · rw [Fz.put_ne h] at hb; exact x.newF b hb, x.live⟩

theorem Step.outS (x : Step g s s' Φ Φ' σ σ') {a : Addr} {o : Obj} (ho : s.heap.get? a = some o) (hs : σ a = none) : σ' a = none := by
  cases e : σ' a with
  | none => rfl
  | some t =>
    rcases x.newS a (by rw [e]; simp) with h | h
    · exact absurd hs h
    · rw [ho] at h; cases h
theorem Step.outF (x : Step g s s' Φ Φ' σ σ') {a : Addr} {o : Obj} (ho : s.heap.get? a = some o) (hs : σ a = none) (hf : Φ a = none) : Φ' a = none := by
  cases e : Φ' a with
  | none => rfl
  | some t =>
    rcases x.newF a (by rw [e]; simp) with h | h | h
    · exact absurd hf h
    · exact absurd hs h
    · rw [ho] at h; cases h
theorem Ok.freshS (h : Ok g σ Φ s.heap) {a : Addr} (hn : s.heap.get? a = none) : σ a = none := by
  cases e : σ a with
  | none => rfl
  | some t => obtain ⟨o, ho⟩ := (h.trk a t e).isSome; rw [hn] at ho; cases ho
theorem Ok.freshF (h : Ok g σ Φ s.heap) {a : Addr} (hn : s.heap.get? a = none) : Φ a = none := by
  cases e : Φ a with
  | none => rfl
  | some t => have := (h.frz a t e).1; rw [hn] at this; cases this
end
theorem size_none (h : Heap) : h.get? h.objs.size = none := by
  cases e : h.get? h.objs.size with
  | none => rfl
  | some o => exact absurd (Heap.lt_size e) (Nat.lt_irrefl _)

structure Cx where
  prog : Program
  w : World
  g : Heap
  mg : Str → Option Value
  mb : Str → Option Value

noncomputable def Room (n : Nat) (A : Around) : Prop := A.handled = none ∧ A.depth + n < recursionLimit ∧ A.units + 8 * n + 200 < cLine

theorem Room.deeper {n : Nat} {A : Around} {env : Env} (h : Room (n + 1) A) : Room n (A.deeper env) := by
  obtain ⟨h1, h2, h3⟩ := h
  refine ⟨h1, ?_, ?_⟩
  · show A.depth + 1 + n < recursionLimit; omega
  · show A.units + 3 + 8 * n + 200 < cLine; omega
theorem Room.le {n m : Nat} {A : Around} (h : Room n A) (hm : m ≤ n) : Room m A := by
  obtain ⟨h1, h2, h3⟩ := h
  exact ⟨h1, by omega, by omega⟩

noncomputable def Ev (X : Cx) (s : Shared) (Φ : Fz) (σ : Sg) (Q : D → Sg → Prop) (v : Value) (s' : Shared) : Prop :=
  ∃ d σ' Φ', Step X.g s s' Φ Φ' σ σ' ∧ Rd Φ' v d ∧ Q d σ'
noncomputable def Evs (X : Cx) (s : Shared) (Φ : Fz) (σ : Sg) (Q : List D → Sg → Prop) (vs : List Value) (s' : Shared) : Prop :=
  ∃ ds σ' Φ', Step X.g s s' Φ Φ' σ σ' ∧ RdAll Φ' vs ds ∧ Q ds σ'
noncomputable def Evl (X : Cx) (s : Shared) (Φ : Fz) (σ : Sg) (Q : List D → Sg → Prop) (v : Value) (s' : Shared) : Prop :=
  ∃ a vs ds σ' Φ', v = .ref a ∧ Step X.g s s' Φ Φ' σ σ' ∧ s.heap.get? a = none ∧ s'.heap.PlainList a vs ∧ σ' a = none ∧ Φ' a = none ∧ RdAll Φ' vs.toList ds ∧ Q ds σ'
noncomputable def No : Value → Shared → Prop := fun xx xx => False

noncomputable def IsFn (X : Cx) (f : Str) : Prop := ∃ a o fd, X.mg f = some (.ref a) ∧ X.g.get? a = some o ∧ o.data = .func fd

noncomputable def CallA (X : Cx) (n : Nat) (f : Value) (ds : List D) (σ : Sg) (Q : D → Sg → Prop) : Prop :=
  ∀ A s Φ vs, Room n A → Ok X.g σ Φ s.heap → RdAll Φ vs ds → codeAny (model X.prog X.w) A (.call f ⟨vs, []⟩) (fun r s' => match r with | .ok (.ret v) => Ev X s Φ σ Q v s' | .ok _ => False | .error e => No e s') s
theorem CallA.wp {X : Cx} {n : Nat} {f : Value} {ds : List D} {σ : Sg} {Q : D → Sg → Prop} (h : CallA X n f ds σ Q) {A : Around} {s : Shared} {Φ : Fz} {vs : List Value} (hr : Room n A) (ok : Ok X.g σ Φ s.heap) (r : RdAll Φ vs ds) :
    wpAny (model X.prog X.w) A (call f vs) (Ev X s Φ σ Q) No s := wpAny_call (h A s Φ vs hr ok r)
theorem CallA.mono {X : Cx} {n k : Nat} {f : Value} {ds : List D} {σ : Sg} {Q Q' : D → Sg → Prop} (h : CallA X n f ds σ Q) (hk : n ≤ k) (hq : ∀ d σ, Q d σ → Q' d σ) : CallA X k f ds σ Q' :=
  fun A s Φ vs hr ok r => codeAny_mono (h A s Φ vs (hr.le hk) ok r) fun z xx e => by
    cases z with
    | error e => exact e
    | ok f =>
      cases f with
      | ret v => obtain ⟨d, σ', Φ', st, rd, q⟩ := e; exact ⟨d, σ', Φ', st, rd, hq _ _ q⟩
      | _ => exact e
noncomputable def CallSem (X : Cx) (n : Nat) (f : Str) (ds : List D) (σ : Sg) (Q : D → Sg → Prop) : Prop := ∀ a, X.mg f = some (.ref a) → CallA X n (.ref a) ds σ Q

inductive BOp where | add | sub | mul | fdiv | mod
inductive COp where | lt | le | gt | ge | eq | ne | is_ | isn | in_ | nin
inductive Bi where | len | sum | min2 | max2 | min1 | max1 | isint | isbool | islist | istuple | tuple1 | int1

inductive MV where
  | unb
  | val (d : D)
  | mt (ds : List D)
  | pin (v : Value) (d : D)

noncomputable def D.atom : D → Bool
  | .none | .bool _ | .int _ | .str _ => true
  | _ => false

mutual
noncomputable def D.py : D → PyData
  | .none => .none
  | .bool b => .bool b
  | .int i => .int i
  | .str x => .str x
  | .tup ds => .tuple (D.pys ds)
  | .lst ds => .list (D.pys ds)
  | .ref _ => .none
noncomputable def D.pys : List D → List PyData
  | [] => []
  | d :: ds => D.py d :: D.pys ds
end
noncomputable def D.ok : Nat → D → Bool
  | _, .none | _, .bool _ | _, .int _ => true
  | _, .str x => PyData.strOk x
  | n + 1, .tup ds => ds.all (D.ok n)
  | n + 1, .lst ds => ds.all (D.ok n)
  | _, _ => false
noncomputable def eqv (a b : D) : Bool := PyData.eqv a.py b.py

noncomputable def small (i : Int) : Prop := -(2 ^ 63) ≤ i ∧ i < 2 ^ 63

inductive BinR : BOp → D → D → D → Prop
  | add (i j : Int) : BinR .add (.int i) (.int j) (.int (i + j))
  | sub (i j : Int) : BinR .sub (.int i) (.int j) (.int (i - j))
  | mul (i j : Int) (h : small i ∨ small j) : BinR .mul (.int i) (.int j) (.int (i * j))
  | fdiv (i j : Int) (h0 : j ≠ 0) (h1 : small j) : BinR .fdiv (.int i) (.int j) (.int (i.fdiv j))
  | mod (i j : Int) (h0 : j ≠ 0) : BinR .mod (.int i) (.int j) (.int (i.fmod j))
noncomputable def D.onInt (x : D) (P : Int → Prop) : Prop := match x with | .int i => P i | _ => False
noncomputable def D.onBool (x : D) (P : Bool → Prop) : Prop := match x with | .bool i => P i | _ => False
noncomputable def D.onLst (x : D) (P : List D → Prop) : Prop := match x with | .lst i => P i | _ => False
noncomputable def D.onTup (x : D) (P : List D → Prop) : Prop := match x with | .tup i => P i | _ => False
noncomputable def D.onSeq (x : D) (P : List D → Prop) : Prop := match x with | .lst i => P i | .tup i => P i | _ => False
noncomputable def D.onAtom (x : D) (P : Prop) : Prop := match x with | .tup _ => False | .lst _ => False | .ref _ => False | _ => P
noncomputable def D.noRef (x : D) (P : Prop) : Prop := match x with | .ref _ => False | _ => P
noncomputable def MV.onVal (x : MV) (P : D → Prop) : Prop := match x with | .val d => P d | .pin _ d => P d | _ => False
noncomputable def MV.onMt (x : MV) (P : List D → Prop) : Prop := match x with | .mt d => P d | _ => False
theorem D.int_of {x : D} {P : Int → Prop} (h : x.onInt P) : ∃ i, x = .int i ∧ P i := by cases x <;> first | exact ⟨_, rfl, h⟩ | exact h.elim
theorem D.bool_of {x : D} {P : Bool → Prop} (h : x.onBool P) : ∃ i, x = .bool i ∧ P i := by cases x <;> first | exact ⟨_, rfl, h⟩ | exact h.elim
theorem D.lst_of {x : D} {P : List D → Prop} (h : x.onLst P) : ∃ i, x = .lst i ∧ P i := by cases x <;> first | exact ⟨_, rfl, h⟩ | exact h.elim
theorem D.tup_of {x : D} {P : List D → Prop} (h : x.onTup P) : ∃ i, x = .tup i ∧ P i := by cases x <;> first | exact ⟨_, rfl, h⟩ | exact h.elim
theorem D.seq_of {x : D} {P : List D → Prop} (h : x.onSeq P) : (∃ i, x = .lst i ∧ P i) ∨ ∃ i, x = .tup i ∧ P i := by cases x <;> first | exact .inl ⟨_, rfl, h⟩ | exact .inr ⟨_, rfl, h⟩ | exact h.elim
theorem D.atom_of {x : D} {P : Prop} (h : x.onAtom P) : x.atom = true ∧ P := by cases x <;> first | exact ⟨rfl, h⟩ | exact h.elim
theorem D.noRef_of {x : D} {P : Prop} (h : x.noRef P) : (∀ a, x ≠ .ref a) ∧ P := by cases x <;> first | exact ⟨fun xx e => (by cases e), h⟩ | exact (show False from h).elim
theorem MV.val_of {x : MV} {P : D → Prop} (h : x.onVal P) : ∃ d, (x = .val d ∨ ∃ v, x = .pin v d) ∧ P d := by cases x <;> first | exact ⟨_, .inl rfl, h⟩ | exact ⟨_, .inr ⟨_, rfl⟩, h⟩ | exact h.elim
theorem MV.mt_of {x : MV} {P : List D → Prop} (h : x.onMt P) : ∃ d, x = .mt d ∧ P d := by cases x <;> first | exact ⟨_, rfl, h⟩ | exact h.elim
noncomputable def binI (op : BOp) (i j : Int) (Q : D → Prop) : Prop := match op with
  | .add => Q (.int (i + j))
  | .sub => Q (.int (i - j))
  | .mul => (small i ∨ small j) ∧ Q (.int (i * j))
  | .fdiv => j ≠ 0 ∧ small j ∧ Q (.int (i.fdiv j))
  | .mod => j ≠ 0 ∧ Q (.int (i.fmod j))
noncomputable def binT (op : BOp) (x y : D) (Q : D → Prop) : Prop := x.onInt fun i => y.onInt fun j => binI op i j Q
theorem bin_of {op : BOp} {x y : D} {Q : D → Prop} (h : binT op x y Q) : ∃ r, BinR op x y r ∧ Q r := by
  obtain ⟨i, rfl, h'⟩ := D.int_of h
  obtain ⟨j, rfl, h⟩ := D.int_of h'
  clear h'
  cases op with
  | add => exact ⟨_, .add i j, h⟩
  | sub => exact ⟨_, .sub i j, h⟩
  | mul => exact ⟨_, .mul i j h.1, h.2⟩
  | fdiv => exact ⟨_, .fdiv i j h.1 h.2.1, h.2.2⟩
  | mod => exact ⟨_, .mod i j h.1, h.2⟩

noncomputable def D.isNone : D → Bool | .none => true | _ => false
noncomputable def D.isInt : D → Bool | .int _ => true | .bool _ => true | _ => false
noncomputable def D.isBool : D → Bool | .bool _ => true | _ => false
noncomputable def D.isLst : D → Bool | .lst _ => true | _ => false
noncomputable def D.isTup : D → Bool | .tup _ => true | _ => false

inductive CmpR : COp → D → D → Bool → Prop
  | lt (i j : Int) : CmpR .lt (.int i) (.int j) (decide (i < j))
  | le (i j : Int) : CmpR .le (.int i) (.int j) (decide (i ≤ j))
  | gt (i j : Int) : CmpR .gt (.int i) (.int j) (decide (j < i))
  | ge (i j : Int) : CmpR .ge (.int i) (.int j) (decide (j ≤ i))
  | eq (x y : D) (hx : x.ok 8 = true) (hy : y.ok 8 = true) : CmpR .eq x y (eqv x y)
  | ne (x y : D) (hx : x.ok 8 = true) (hy : y.ok 8 = true) : CmpR .ne x y (!eqv x y)
  | is_ (x : D) : CmpR .is_ x .none x.isNone
  | isn (x : D) : CmpR .isn x .none (!x.isNone)
  | in_ (x : D) (ds : List D) (hx : x.ok 8 = true) (hd : D.ok 9 (.lst ds) = true) : CmpR .in_ x (.lst ds) (ds.any fun y => eqv y x)
  | nin (x : D) (ds : List D) (hx : x.ok 8 = true) (hd : D.ok 9 (.lst ds) = true) : CmpR .nin x (.lst ds) (!ds.any fun y => eqv y x)
noncomputable def cmpT (op : COp) (x y : D) (Q : Bool → Prop) : Prop := match op with
  | .lt => x.onInt fun i => y.onInt fun j => Q (decide (i < j))
  | .le => x.onInt fun i => y.onInt fun j => Q (decide (i ≤ j))
  | .gt => x.onInt fun i => y.onInt fun j => Q (decide (j < i))
  | .ge => x.onInt fun i => y.onInt fun j => Q (decide (j ≤ i))
  | .eq => x.ok 8 = true ∧ y.ok 8 = true ∧ Q (eqv x y)
  | .ne => x.ok 8 = true ∧ y.ok 8 = true ∧ Q (!eqv x y)
  | .is_ => y = .none ∧ Q x.isNone
  | .isn => y = .none ∧ Q (!x.isNone)
  | .in_ => y.onLst fun ds => x.ok 8 = true ∧ D.ok 9 (.lst ds) = true ∧ Q (ds.any fun y => eqv y x)
  | .nin => y.onLst fun ds => x.ok 8 = true ∧ D.ok 9 (.lst ds) = true ∧ Q (!ds.any fun y => eqv y x)
theorem cmp_of {op : COp} {x y : D} {Q : Bool → Prop} (h : cmpT op x y Q) : ∃ r, CmpR op x y r ∧ Q r := by
  cases op with
  | lt => obtain ⟨i, rfl, h1⟩ := D.int_of h; obtain ⟨j, rfl, h2⟩ := D.int_of h1; exact ⟨_, .lt i j, h2⟩
  | le => obtain ⟨i, rfl, h1⟩ := D.int_of h; obtain ⟨j, rfl, h2⟩ := D.int_of h1; exact ⟨_, .le i j, h2⟩
  | gt => obtain ⟨i, rfl, h1⟩ := D.int_of h; obtain ⟨j, rfl, h2⟩ := D.int_of h1; exact ⟨_, .gt i j, h2⟩
  | ge => obtain ⟨i, rfl, h1⟩ := D.int_of h; obtain ⟨j, rfl, h2⟩ := D.int_of h1; exact ⟨_, .ge i j, h2⟩
  | eq => exact ⟨_, .eq x y h.1 h.2.1, h.2.2⟩
  | ne => exact ⟨_, .ne x y h.1 h.2.1, h.2.2⟩
  | is_ => obtain ⟨rfl, h1⟩ := h; exact ⟨_, .is_ x, h1⟩
  | isn => obtain ⟨rfl, h1⟩ := h; exact ⟨_, .isn x, h1⟩
  | in_ => obtain ⟨ds, rfl, h1⟩ := D.lst_of h; exact ⟨_, .in_ x ds h1.1 h1.2.1, h1.2.2⟩
  | nin => obtain ⟨ds, rfl, h1⟩ := D.lst_of h; exact ⟨_, .nin x ds h1.1 h1.2.1, h1.2.2⟩

inductive IdxR : D → D → D → Prop
  | lst (ds : List D) (k : Int) (d : D) (h0 : 0 ≤ k) (h1 : k < 2 ^ 63) (hd : ds[k.toNat]? = some d) : IdxR (.lst ds) (.int k) d
  | tup (ds : List D) (k : Int) (d : D) (h0 : 0 ≤ k) (h1 : k < 2 ^ 63) (hd : ds[k.toNat]? = some d) : IdxR (.tup ds) (.int k) d
noncomputable def idxT (x y : D) (Q : D → Prop) : Prop := y.onInt fun k => x.onSeq fun ds => 0 ≤ k ∧ k < 2 ^ 63 ∧ ∃ d, ds[k.toNat]? = some d ∧ Q d
theorem idx_of {x y : D} {Q : D → Prop} (h : idxT x y Q) : ∃ r, IdxR x y r ∧ Q r := by
  obtain ⟨k, rfl, h1⟩ := D.int_of h
  rcases D.seq_of h1 with ⟨ds, rfl, h0, h1, d, hd, q⟩ | ⟨ds, rfl, h0, h1, d, hd, q⟩
  · exact ⟨d, .lst ds k d h0 h1 hd, q⟩
  · exact ⟨d, .tup ds k d h0 h1 hd, q⟩

inductive BiR : Bi → List D → D → Prop
  | lenL (ds : List D) (h : ds.length ≤ 2 ^ 20) : BiR .len [.lst ds] (.int ds.length)
  | lenT (ds : List D) (h : ds.length ≤ 2 ^ 20) : BiR .len [.tup ds] (.int ds.length)
  | sum (ns : List Int) : BiR .sum [.lst (ns.map D.int)] (.int ns.sum)
  | max1 (ns : List Int) (m : Int) (hm : m ∈ ns) (h : ∀ k ∈ ns, k ≤ m) : BiR .max1 [.lst (ns.map D.int)] (.int m)
  | min1 (ns : List Int) (m : Int) (hm : m ∈ ns) (h : ∀ k ∈ ns, m ≤ k) : BiR .min1 [.lst (ns.map D.int)] (.int m)
  | min2 (a b : Int) : BiR .min2 [.int a, .int b] (.int (if b < a then b else a))
  | max2 (a b : Int) : BiR .max2 [.int a, .int b] (.int (if b > a then b else a))
  | isint (d : D) (h : ∀ a, d ≠ .ref a) : BiR .isint [d] (.bool d.isInt)
  | isbool (d : D) (h : ∀ a, d ≠ .ref a) : BiR .isbool [d] (.bool d.isBool)
  | islist (d : D) (h : ∀ a, d ≠ .ref a) : BiR .islist [d] (.bool d.isLst)
  | istuple (d : D) (h : ∀ a, d ≠ .ref a) : BiR .istuple [d] (.bool d.isTup)
  | tuple1 (ds : List D) (h : ds.length ≤ 2 ^ 20) : BiR .tuple1 [.lst ds] (.tup ds)
noncomputable def one1 (ds : List D) (P : D → Prop) : Prop := match ds with | [x] => P x | _ => False
noncomputable def two2 (ds : List D) (P : D → D → Prop) : Prop := match ds with | [x, y] => P x y | _ => False
theorem one_of {ds : List D} {P : D → Prop} (h : one1 ds P) : ∃ x, ds = [x] ∧ P x := by
  match ds, h with
  | [x], h => exact ⟨x, rfl, h⟩
theorem two_of {ds : List D} {P : D → D → Prop} (h : two2 ds P) : ∃ x y, ds = [x, y] ∧ P x y := by
  match ds, h with
  | [x, y], h => exact ⟨x, y, rfl, h⟩
noncomputable def biT (b : Bi) (ds : List D) (Q : D → Prop) : Prop := match b with
  | .len => one1 ds fun x => x.onSeq fun l => l.length ≤ 2 ^ 20 ∧ Q (.int l.length)
  | .sum => ∃ ns : List Int, ds = [.lst (ns.map D.int)] ∧ Q (.int ns.sum)
  | .max1 => ∃ (ns : List Int) (m : Int), ds = [.lst (ns.map D.int)] ∧ m ∈ ns ∧ (∀ k ∈ ns, k ≤ m) ∧ Q (.int m)
  | .min1 => ∃ (ns : List Int) (m : Int), ds = [.lst (ns.map D.int)] ∧ m ∈ ns ∧ (∀ k ∈ ns, m ≤ k) ∧ Q (.int m)
  | .min2 => two2 ds fun x y => x.onInt fun a => y.onInt fun b => Q (.int (min a b))
  | .max2 => two2 ds fun x y => x.onInt fun a => y.onInt fun b => Q (.int (max a b))
  | .isint => one1 ds fun x => x.noRef (Q (.bool x.isInt))
  | .isbool => one1 ds fun x => x.noRef (Q (.bool x.isBool))
  | .islist => one1 ds fun x => x.noRef (Q (.bool x.isLst))
  | .istuple => one1 ds fun x => x.noRef (Q (.bool x.isTup))
  | .tuple1 => one1 ds fun x => x.onLst fun l => l.length ≤ 2 ^ 20 ∧ Q (.tup l)
  | .int1 => False
theorem bi_of {b : Bi} {ds : List D} {Q : D → Prop} (h : biT b ds Q) : ∃ r, BiR b ds r ∧ Q r := by
  cases b with
  | len =>
    obtain ⟨x, rfl, h1⟩ := one_of h
    rcases D.seq_of h1 with ⟨l, rfl, h2, h3⟩ | ⟨l, rfl, h2, h3⟩
    · exact ⟨_, .lenL l h2, h3⟩
    · exact ⟨_, .lenT l h2, h3⟩
  | sum => obtain ⟨ns, rfl, h1⟩ := h; exact ⟨_, .sum ns, h1⟩
  | max1 => obtain ⟨ns, m, rfl, h1, h2, h3⟩ := h; exact ⟨_, .max1 ns m h1 h2, h3⟩
  | min1 => obtain ⟨ns, m, rfl, h1, h2, h3⟩ := h; exact ⟨_, .min1 ns m h1 h2, h3⟩
  | min2 =>
    obtain ⟨x, y, rfl, h1⟩ := two_of h
    obtain ⟨i, rfl, h2⟩ := D.int_of h1
    obtain ⟨j, rfl, h3⟩ := D.int_of h2
    have e : (if j < i then j else i) = min i j := by simp only [Int.min_def]; split <;> split <;> omega
    exact ⟨_, .min2 i j, by rw [e]; exact h3⟩
  | max2 =>
    obtain ⟨x, y, rfl, h1⟩ := two_of h
    obtain ⟨i, rfl, h2⟩ := D.int_of h1
    obtain ⟨j, rfl, h3⟩ := D.int_of h2
    have e : (if j > i then j else i) = max i j := by simp only [Int.max_def]; split <;> split <;> omega
    exact ⟨_, .max2 i j, by rw [e]; exact h3⟩
  | isint => obtain ⟨x, rfl, h0⟩ := one_of h; obtain ⟨h1, h2⟩ := D.noRef_of h0; exact ⟨_, .isint x h1, h2⟩
  | isbool => obtain ⟨x, rfl, h0⟩ := one_of h; obtain ⟨h1, h2⟩ := D.noRef_of h0; exact ⟨_, .isbool x h1, h2⟩
  | islist => obtain ⟨x, rfl, h0⟩ := one_of h; obtain ⟨h1, h2⟩ := D.noRef_of h0; exact ⟨_, .islist x h1, h2⟩
  | istuple => obtain ⟨x, rfl, h0⟩ := one_of h; obtain ⟨h1, h2⟩ := D.noRef_of h0; exact ⟨_, .istuple x h1, h2⟩
  | tuple1 => obtain ⟨x, rfl, h0⟩ := one_of h; obtain ⟨l, rfl, h1, h2⟩ := D.lst_of h0; exact ⟨_, .tuple1 l h1, h2⟩
  | int1 => exact h.elim

noncomputable def frzAll (ρ : List MV) : List Nat → List MV
  | [] => ρ
  | i :: is => frzAll (match ρ.getD i .unb with | .mt ds => ρ.set i (.val (.lst ds)) | _ => ρ) is

noncomputable def setAll (ρ : List MV) : List Nat → List D → List MV
  | i :: is, d :: ds => setAll (ρ.set i (.val d)) is ds
  | _, _ => ρ

noncomputable def empS : Sg := fun xx => none

noncomputable def condT (b : D) (x y : Prop) : Prop := b.onBool fun c => if c = true then x else y
noncomputable def notT (x : D) (Q : Bool → Prop) : Prop := x.onBool fun b => Q (!b)

noncomputable abbrev E := Cx → Nat → List MV → Sg → (D → Sg → Prop) → Prop
noncomputable abbrev L := Cx → Nat → List MV → Sg → (List D → Sg → Prop) → Prop
noncomputable abbrev It := Cx → Nat → Nat → List MV → Sg → (List (List D) → Sg → Prop) → Prop
inductive Fl where
  | next
  | ret (d : D)
noncomputable abbrev S := Cx → Nat → List MV → Sg → (Fl → List MV → Sg → Prop) → Prop
noncomputable abbrev mEval (X : Cx) (n : Nat) (e : E) := e X n
noncomputable abbrev mL (X : Cx) (n : Nat) (l : L) := l X n
noncomputable abbrev mIt (X : Cx) (n : Nat) (it : It) := it X n
noncomputable abbrev mExec (X : Cx) (n : Nat) (s : S) := s X n
noncomputable def mEvals (X : Cx) (n : Nat) : List E → List MV → Sg → (List D → Sg → Prop) → Prop
  | [], _, σ, Q => Q [] σ
  | e :: es, ρ, σ, Q => mEval X n e ρ σ fun d σ => mEvals X n es ρ σ fun ds σ => Q (d :: ds) σ
noncomputable def mExecs (X : Cx) (n : Nat) : List S → List MV → Sg → (Fl → List MV → Sg → Prop) → Prop
  | [], ρ, σ, Q => Q .next ρ σ
  | s :: ss, ρ, σ, Q => mExec X n s ρ σ fun fl ρ' σ' => match fl with
      | .next => mExecs X n ss ρ' σ' Q
      | .ret d => Q (.ret d) ρ' σ'
noncomputable def mCond (X : Cx) (n : Nat) : Option E → List MV → Sg → (D → Sg → Prop) → Prop
  | none, _, σ, Q => Q (.bool true) σ
  | some e, ρ, σ, Q => mEval X n e ρ σ Q
noncomputable def E.cst (d : D) : E := fun xx xx xx σ Q => Q d σ
noncomputable def E.var (i : Nat) : E := fun xx xx ρ σ Q => (ρ.getD i .unb).onVal fun d => Q d σ
noncomputable def E.bin (op : BOp) (a b : E) : E := fun X n ρ σ Q => a X n ρ σ fun x σ => b X n ρ σ fun y σ => binT op x y fun r => Q r σ
noncomputable def E.neg (a : E) : E := fun X n ρ σ Q => a X n ρ σ fun x σ => x.onInt fun i => Q (.int (-i)) σ
noncomputable def E.cmp (op : COp) (a b : E) : E := fun X n ρ σ Q => a X n ρ σ fun x σ => b X n ρ σ fun y σ => cmpT op x y fun r => Q (.bool r) σ
noncomputable def E.cmp2 (o1 o2 : COp) (a b c : E) : E := fun X n ρ σ Q => a X n ρ σ fun x σ => b X n ρ σ fun y σ => cmpT o1 x y fun r => if r = true then c X n ρ σ fun z σ => cmpT o2 y z fun r' => Q (.bool r') σ else Q (.bool false) σ
noncomputable def E.and_ (a b : E) : E := fun X n ρ σ Q => a X n ρ σ fun x σ => condT x (b X n ρ σ Q) (Q (.bool false) σ)
noncomputable def E.or_ (a b : E) : E := fun X n ρ σ Q => a X n ρ σ fun x σ => condT x (Q (.bool true) σ) (b X n ρ σ Q)
noncomputable def E.not_ (a : E) : E := fun X n ρ σ Q => a X n ρ σ fun x σ => notT x fun b => Q (.bool b) σ
noncomputable def E.lst (l : L) : E := fun X n ρ σ Q => l X n ρ σ fun ds σ => Q (.lst ds) σ
noncomputable def E.tupE (es : List E) : E := fun X n ρ σ Q => mEvals X n es ρ σ fun ds σ => ds.length ≤ 2 ^ 20 ∧ Q (.tup ds) σ
noncomputable def E.idx (a i : E) : E := fun X n ρ σ Q => a X n ρ σ fun x σ => i X n ρ σ fun y σ => idxT x y fun r => Q r σ
noncomputable def E.call (f : Str) (args : List E) : E := fun X n ρ σ Q => mEvals X n args ρ σ fun ds σ => CallSem X n f ds σ Q
noncomputable def E.bi (b : Bi) (args : List E) : E := fun X n ρ σ Q => mEvals X n args ρ σ fun ds σ => biT b ds fun r => Q r σ
noncomputable def E.borrow (xs : List Nat) (e : E) : E := fun X n ρ σ Q => e X n (frzAll ρ xs) empS fun d xx => d.onAtom (Q d σ)

noncomputable def compT (cond elt : List MV → Sg → (D → Sg → Prop) → Prop) (ρ : List MV) (is : List Nat) : List (List D) → Sg → (List D → Sg → Prop) → Prop
  | [], σ, Q => Q [] σ
  | r :: rs, σ, Q => cond (setAll ρ is r) σ fun c σ => condT c
      (elt (setAll ρ is r) σ fun d σ => compT cond elt ρ is rs σ fun ds σ => Q (d :: ds) σ)
      (compT cond elt ρ is rs σ Q)

noncomputable def L.disp (es : List E) : L := fun X n ρ σ Q => mEvals X n es ρ σ fun ds σ => ds.length ≤ 2 ^ 20 ∧ Q ds σ
noncomputable def L.ofSeq (it : It) : L := fun X n ρ σ Q => it X n 1 ρ σ fun rows σ => rows.length ≤ 2 ^ 20 ∧ Q (rows.map fun r => r.headD .none) σ
noncomputable def L.rep (e m : E) : L := fun X n ρ σ Q => e X n ρ σ fun d σ => m X n ρ σ fun k σ => k.onInt fun i => 0 ≤ i ∧ i ≤ 2 ^ 20 ∧ Q (List.replicate i.toNat d) σ
noncomputable def L.upto (a h : E) : L := fun X n ρ σ Q => a X n ρ σ fun x σ => h X n ρ σ fun y σ => x.onLst fun ds => y.onInt fun k => 0 ≤ k ∧ ds.length ≤ 2 ^ 20 ∧ Q (ds.take k.toNat) σ
noncomputable def L.from_ (a h : E) : L := fun X n ρ σ Q => a X n ρ σ fun x σ => h X n ρ σ fun y σ => x.onLst fun ds => y.onInt fun k => 0 ≤ k ∧ ds.length ≤ 2 ^ 20 ∧ Q (ds.drop k.toNat) σ
noncomputable def L.comp (elt : E) (is : List Nat) (it : It) (cond : Option E) : L := fun X n ρ σ Q => it X n is.length ρ σ fun rows σ => rows.length ≤ 2 ^ 20 ∧ compT (mCond X n cond) (elt X n) ρ is rows σ Q
noncomputable def L.cat (a b : E) : L := fun X n ρ σ Q => a X n ρ σ fun x σ => b X n ρ σ fun y σ => x.onLst fun ds => y.onLst fun es => (ds ++ es).length ≤ 2 ^ 20 ∧ Q (ds ++ es) σ
noncomputable def L.borrow (xs : List Nat) (l : L) : L := fun X n ρ σ Q => l X n (frzAll ρ xs) empS fun ds xx => (ds.all D.atom) = true ∧ Q ds σ

inductive SeqR (k : Nat) : D → List (List D) → Prop
  | one (ds : List D) (h : k = 1) : SeqR k (.lst ds) (ds.map fun d => [d])
  | tup (ds : List D) (h : k = 1) : SeqR k (.tup ds) (ds.map fun d => [d])
  | many (rows : List (List D)) (h : k ≠ 1) (hr : ∀ r ∈ rows, r.length = k) : SeqR k (.lst (rows.map D.tup)) rows
noncomputable def seqT (k : Nat) (x : D) (P : List (List D) → Prop) : Prop := match k with
  | 1 => x.onSeq fun ds => P (ds.map fun d => [d])
  | k => k ≠ 1 ∧ ∃ rows : List (List D), x = .lst (rows.map D.tup) ∧ (∀ r ∈ rows, r.length = k) ∧ P rows
theorem seqT_of {k : Nat} {x : D} {P : List (List D) → Prop} (h : seqT k x P) : ∃ rows, SeqR k x rows ∧ P rows := by
  by_cases hk : k = 1
  · subst hk
    rcases D.seq_of (h : x.onSeq _) with ⟨ds, rfl, h1⟩ | ⟨ds, rfl, h1⟩
    · exact ⟨_, .one ds rfl, h1⟩
    · exact ⟨_, .tup ds rfl, h1⟩
  · unfold seqT at h
    split at h
    · exact absurd rfl hk
    · obtain ⟨_, rows, rfl, hr, h1⟩ := h
      exact ⟨rows, .many rows hk hr, h1⟩
noncomputable def It.seq (e : E) : It := fun X n k ρ σ Q => e X n ρ σ fun x σ => seqT k x fun rows => Q rows σ
noncomputable def It.range (e : E) : It := fun X n k ρ σ Q => e X n ρ σ fun x σ => x.onInt fun i => k = 1 ∧ -(2 ^ 62) ≤ i ∧ i < 2 ^ 62 ∧ Q ((List.range i.toNat).map fun (j : Nat) => [D.int (j : Int)]) σ
noncomputable def It.zip (a b : E) : It := fun X n k ρ σ Q => a X n ρ σ fun x σ => b X n ρ σ fun y σ => x.onLst fun ds => y.onLst fun es => k = 2 ∧ Q ((ds.zip es).map fun p => [p.1, p.2]) σ
noncomputable def It.enum (e : E) : It := fun X n k ρ σ Q => e X n ρ σ fun x σ => x.onLst fun ds => k = 2 ∧ Q (ds.mapIdx fun (i : Nat) d => [D.int (i : Int), d]) σ

noncomputable def forT (bd : List MV → Sg → (Fl → List MV → Sg → Prop) → Prop) (is : List Nat) : List (List D) → List MV → Sg → (Fl → List MV → Sg → Prop) → Prop
  | [], ρ, σ, Q => Q .next ρ σ
  | r :: rs, ρ, σ, Q => ∃ P : Fl → List MV → Sg → Prop, bd (setAll ρ is r) σ P ∧ (∀ d ρ' σ', P (.ret d) ρ' σ' → Q (.ret d) ρ' σ') ∧ ∀ ρ' σ', P .next ρ' σ' → forT bd is rs ρ' σ' Q

noncomputable def S.asg (i : Nat) (e : E) : S := fun X n ρ σ Q => e X n ρ σ fun d σ => Q .next (ρ.set i (.val d)) σ
noncomputable def S.asgM (i : Nat) (l : L) : S := fun X n ρ σ Q => l X n ρ σ fun ds σ => Q .next (ρ.set i (.mt ds)) σ
noncomputable def S.unp (is : List Nat) (e : E) : S := fun X n ρ σ Q => e X n ρ σ fun d σ => d.onTup fun ds => ds.length = is.length ∧ Q .next (setAll ρ is ds) σ
noncomputable def S.app (i : Nat) (e : E) : S := fun X n ρ σ Q => (ρ.getD i .unb).onMt fun ds => ds.length ≤ 2 ^ 20 ∧ e X n ρ σ fun d σ => Q .next (ρ.set i (.mt (ds ++ [d]))) σ
noncomputable def S.appPop (i j : Nat) (e : E) : S := fun X n ρ σ Q => i ≠ j ∧ (ρ.getD i .unb).onMt fun ds => (ρ.getD j .unb).onMt fun es => ds.length ≤ 2 ^ 20 ∧ es.length ≤ 2 ^ 20 ∧ e X n ρ σ fun k σ =>
      k.onInt fun t => ∃ d, 0 ≤ t ∧ es[t.toNat]? = some d ∧ Q .next ((ρ.set j (.mt (es.eraseIdx t.toNat))).set i (.mt (ds ++ [d]))) σ
noncomputable def S.setI (i : Nat) (k e : E) : S := fun X n ρ σ Q => (ρ.getD i .unb).onMt fun ds => ds.length ≤ 2 ^ 20 ∧ e X n ρ σ fun d σ => k X n ρ σ fun t σ =>
      t.onInt fun j => 0 ≤ j ∧ j < ds.length ∧ Q .next (ρ.set i (.mt (ds.set j.toNat d))) σ
noncomputable def S.iff (c : E) (t f : List S) : S := fun X n ρ σ Q => c X n ρ σ fun b σ => condT b (mExecs X n t ρ σ Q) (mExecs X n f ρ σ Q)
noncomputable def S.for_ (is : List Nat) (it : It) (body : List S) : S := fun X n ρ σ Q => it X n is.length ρ σ fun rows σ => forT (mExecs X n body) is rows ρ σ Q
noncomputable def S.ret (e : E) : S := fun X n ρ σ Q => e X n ρ σ fun d σ => Q (.ret d) ρ σ
noncomputable def S.expr (e : E) : S := fun X n ρ σ Q => e X n ρ σ fun xx σ => Q .next ρ σ
noncomputable def S.freeze (i : Nat) : S := fun xx xx ρ σ Q => (ρ.getD i .unb).onMt fun ds => Q .next (ρ.set i (.val (.lst ds))) σ
noncomputable def look (env : Env) (m cm : Str → Option Value) (x : Str) : Option Value := match env.kindOf x with
  | some .local => m x
  | some .cell => cm x
  | some .free => cm x
  | _ => none
noncomputable def acc (env : Env) (x : Str) : Prop := env.kindOf x = some .local ∨ env.kindOf x = some .cell ∨ env.kindOf x = some .free

noncomputable def VRel (Φ : Fz) (h : Heap) (ov : Option Value) (μi : Option Addr) : MV → Prop
  | .unb => μi = none
  | .val d => μi = none ∧ ∃ v, ov = some v ∧ Rd Φ v d
  | .pin v d => μi = none ∧ ov = some v ∧ Rd Φ v d
  | .mt ds => ∃ a vs, μi = some a ∧ ov = some (.ref a) ∧ h.PlainList a vs ∧ RdAll Φ vs.toList ds

noncomputable def Own (env : Env) (μ : Nat → Option Addr) (a : Addr) : Prop := a = env.locals ∨ (∃ n, (n, a) ∈ env.cells) ∨ ∃ i, μ i = some a

structure FrameX (g : Heap) (env : Env) (names : List Str) (ρ : List MV) (σ : Sg) (Φ : Fz) (h : Heap) (m cm : Str → Option Value) (μ : Nat → Option Addr) : Prop where
  nd : names.Nodup
  len : ρ.length = names.length
  ns : h.Ns env.locals m
  cell : ∀ n c, env.cells.lookup n = some c → h.IsCell c (cm n)
  cellsIn : ∀ n c, (n, c) ∈ env.cells → ∃ o, h.get? c = some o
  hasCell : ∀ x, env.kindOf x = some .cell ∨ env.kindOf x = some .free → (env.cells.lookup x).isSome = true
  apart : env.cells.Pairwise fun x y => x.2 ≠ y.2
  offc : ∀ n c, (n, c) ∈ env.cells → c ≠ env.locals
  priv : ∀ a, Own env μ a → σ a = none ∧ Φ a = none ∧ g.get? a = none
  vars : ∀ i x, names[i]? = some x → acc env x → VRel Φ h (look env m cm x) (μ i) (ρ.getD i .unb)
  inj : ∀ i j a, μ i = some a → μ j = some a → i = j
  offm : ∀ i a, μ i = some a → a ≠ env.locals ∧ ∀ n, (n, a) ∉ env.cells
  live : ∀ i a, μ i = some a → ∃ o, h.get? a = some o

noncomputable def Frame (g : Heap) (env : Env) (names : List Str) (ρ : List MV) (σ : Sg) (Φ : Fz) (h : Heap) : Prop := ∃ m cm μ, FrameX g env names ρ σ Φ h m cm μ

structure EnvOk (env : Env) : Prop where
  kind : env.scope.kind = .function
  glob : env.globals = mainGlobals
  blt : env.builtins = builtinsNs

noncomputable def bNames : List (Str × Value) := [("len", .builtin "len"), ("sum", .builtin "sum"), ("min", .builtin "min"), ("max", .builtin "max"), ("sorted", .builtin "sorted"), ("isinstance", .builtin "isinstance"),
  ("range", .type "range"), ("list", .type "list"), ("tuple", .type "tuple"), ("int", .type "int"), ("bool", .type "bool"), ("zip", .type "zip"), ("enumerate", .type "enumerate")]

structure Gnd (X : Cx) : Prop where
  gl : X.g.Ns mainGlobals X.mg
  bl : X.g.Ns builtinsNs X.mb
  lim : X.g.NoLimit
  blt : ∀ p ∈ bNames, X.mg p.1 = none ∧ X.mb p.1 = some p.2

theorem VRel.mono {Φ Φ' : Fz} {h h' : Heap} {ov : Option Value} {μi : Option Addr} {mv : MV} (hl : Fz.le Φ Φ') (hh : ∀ a o, μi = some a → h.get? a = some o → h'.get? a = some o) (x : VRel Φ h ov μi mv) : VRel Φ' h' ov μi mv := by
  cases mv with
  | unb => exact x
  | val d => obtain ⟨h1, v, h2, h3⟩ := x; exact ⟨h1, v, h2, h3.mono hl⟩
  | pin v d => obtain ⟨h1, h2, h3⟩ := x; exact ⟨h1, h2, h3.mono hl⟩
  | mt ds => obtain ⟨a, vs, h1, h2, h3, h4⟩ := x; exact ⟨a, vs, h1, h2, h3.at fun o e => hh a o h1 e, h4.mono hl⟩

theorem FrameX.step {X : Cx} {env : Env} {names : List Str} {ρ : List MV} {σ σ' : Sg} {Φ Φ' : Fz} {s s' : Shared} {m cm : Str → Option Value} {μ : Nat → Option Addr}
    (F : FrameX X.g env names ρ σ Φ s.heap m cm μ) (x : Step X.g s s' Φ Φ' σ σ') : FrameX X.g env names ρ σ' Φ' s'.heap m cm μ := by
  have own : ∀ a o, Own env μ a → s.heap.get? a = some o → s'.heap.get? a = some o := fun a o h e => x.keep a o e (F.priv a h).1
  have hin : ∀ a, Own env μ a → ∃ o, s.heap.get? a = some o := fun a h => by
    rcases h with h | ⟨n, h⟩ | ⟨i, h⟩
    · subst h; obtain ⟨o, _, _, ho, _⟩ := F.ns; exact ⟨o, ho⟩
    · exact F.cellsIn n a h
    · exact F.live i a h
  exact {
    nd := F.nd
    len := F.len
    ns := F.ns.at' fun o e => own _ o (.inl rfl) e
    cell := fun n c hc => let ⟨o, ho, hd⟩ := F.cell n c hc; ⟨o, own c o (.inr (.inl ⟨n, mem_of_lookup hc⟩)) ho, hd⟩
    cellsIn := fun n c hc => let ⟨o, ho⟩ := F.cellsIn n c hc; ⟨o, own c o (.inr (.inl ⟨n, hc⟩)) ho⟩
    hasCell := F.hasCell
    apart := F.apart
    offc := F.offc
    priv := fun a h => let ⟨o, ho⟩ := hin a h; let p := F.priv a h; ⟨x.outS ho p.1, x.outF ho p.1 p.2.1, p.2.2⟩
    vars := fun i n hn ha => (F.vars i n hn ha).mono x.mono fun a o e ho => own a o (.inr (.inr ⟨i, e⟩)) ho
    inj := F.inj
    offm := F.offm
    live := fun i a e => let ⟨o, ho⟩ := F.live i a e; ⟨o, own a o (.inr (.inr ⟨i, e⟩)) ho⟩ }

theorem Frame.step {X : Cx} {env : Env} {names : List Str} {ρ : List MV} {σ σ' : Sg} {Φ Φ' : Fz} {s s' : Shared}
    (F : Frame X.g env names ρ σ Φ s.heap) (x : Step X.g s s' Φ Φ' σ σ') : Frame X.g env names ρ σ' Φ' s'.heap :=
  let ⟨m, cm, μ, f⟩ := F; ⟨m, cm, μ, f.step x⟩

noncomputable def SE (X : Cx) (n : Nat) (sc : Scope) (names : List Str) (x : Expr) (e : E) : Prop :=
  ∀ env A s Φ ρ σ Q, env.scope = sc → EnvOk env → Room n A → Ok X.g σ Φ s.heap → Frame X.g env names ρ σ Φ s.heap → mEval X n e ρ σ Q →
    wpAny (model X.prog X.w) A (eval x env) (Ev X s Φ σ Q) No s
noncomputable def ST (X : Cx) (n : Nat) (sc : Scope) (names : List Str) (x : Expr) (e : E) : Prop :=
  ∀ env A s Φ ρ σ (Q : D → Sg → Prop) (P : Bool → Sg → Prop), env.scope = sc → EnvOk env → Room n A → Ok X.g σ Φ s.heap → Frame X.g env names ρ σ Φ s.heap → (∀ d σ, Q d σ → ∃ c, d = .bool c ∧ P c σ) → mEval X n e ρ σ Q →
    wpAny (model X.prog X.w) A (isTrue x env (eval x env)) (fun b s' => ∃ σ' Φ', Step X.g s s' Φ Φ' σ σ' ∧ P b σ') No s
noncomputable def SEs (X : Cx) (n : Nat) (sc : Scope) (names : List Str) (xs : List Expr) (es : List E) : Prop :=
  ∀ env A s Φ ρ σ Q pos, env.scope = sc → EnvOk env → Room n A → Ok X.g σ Φ s.heap → Frame X.g env names ρ σ Φ s.heap → mEvals X n es ρ σ Q →
    wpAny (model X.prog X.w) A (spliced (backTo pos (starEach xs env))) (Evs X s Φ σ Q) No s
noncomputable def SL (X : Cx) (n : Nat) (sc : Scope) (names : List Str) (x : Expr) (l : L) : Prop :=
  ∀ env A s Φ ρ σ Q, env.scope = sc → EnvOk env → Room n A → Ok X.g σ Φ s.heap → Frame X.g env names ρ σ Φ s.heap → mL X n l ρ σ Q →
    wpAny (model X.prog X.w) A (eval x env) (Evl X s Φ σ Q) No s

section
variable {X : Cx} {n : Nat} {sc : Scope} {names : List Str}

theorem SE_none {k : Nat} {pos : Pos} : SE X n sc names (.Constant .none k pos) (.cst .none) := fun xx xx xx xx xx xx xx xx xx xx ok xx h =>
  PyProof.Rows.Constant_none ⟨_, _, _, Step.refl ok, .none, h⟩
theorem SE_bool {b : Bool} {k : Nat} {pos : Pos} : SE X n sc names (.Constant (.bool b) k pos) (.cst (.bool b)) := fun xx xx xx xx xx xx xx xx xx xx ok xx h =>
  PyProof.Rows.Constant_bool ⟨_, _, _, Step.refl ok, .bool b, h⟩
theorem SE_int {i : Int} {k : Nat} {pos : Pos} : SE X n sc names (.Constant (.int i) k pos) (.cst (.int i)) := fun xx xx xx xx xx xx xx xx xx xx ok xx h =>
  wpAny_Constant_int ⟨_, _, _, Step.tok ok _, .int i _, h⟩
theorem SE_str {x : Str} {k : Nat} {pos : Pos} : SE X n sc names (.Constant (.str x) k pos) (.cst (.str x)) := fun xx xx xx xx xx xx xx xx xx xx ok xx h =>
  Calls.Constant_str ⟨_, _, _, Step.tok ok _, .str x _, h⟩

theorem Env.kindOf_sc {env : Env} (h : env.scope = sc) (x : Str) : env.kindOf x = sc.names.lookup x := by rw [← h]; rfl

theorem load_var {env : Env} {A : Around} {s : Shared} {m cm : Str → Option Value} {μ : Nat → Option Addr} {ρ : List MV} {σ : Sg} {Φ : Fz} {x : Str} {pos : Pos} {v : Value} {Q : Value → Shared → Prop}
    (eo : EnvOk env) (F : FrameX X.g env names ρ σ Φ s.heap m cm μ) (ha : acc env x) (hv : look env m cm x = some v) (hd : (x == ("__debug__" : Str)) = false) (hcd : (x == ("__classdict__" : Str)) = false)
    (h : Q v s) : wpAny (model X.prog X.w) A (eval (.Name x pos) env) Q No s := by
  refine wpAny_Name ?_ hd
  rcases ha with ha | ha | ha
  · simp only [look, ha] at hv
    exact wpAny_loadName_local eo.kind ha F.ns hv h
  · simp only [look, ha] at hv
    obtain ⟨c, hc⟩ := Option.isSome_iff_exists.mp (F.hasCell x (.inl ha))
    exact wpAny_loadName_cell eo.kind ha hc (hv ▸ F.cell x c hc) h
  · simp only [look, ha] at hv
    obtain ⟨c, hc⟩ := Option.isSome_iff_exists.mp (F.hasCell x (.inr ha))
    exact wpAny_loadName_free eo.kind ha hc (hv ▸ F.cell x c hc) h hcd

noncomputable def accS (sc : Scope) (x : Str) : Bool := match sc.names.lookup x with
  | some .local => true
  | some .cell => true
  | some .free => true
  | _ => false
theorem acc_of {env : Env} (he : env.scope = sc) {x : Str} (h : accS sc x = true) : acc env x := by
  unfold acc
  rw [Env.kindOf_sc he]
  unfold accS at h
  split at h
  · exact .inl (by assumption)
  · exact .inr (.inl (by assumption))
  · exact .inr (.inr (by assumption))
  · cases h
noncomputable def plainName (x : Str) : Bool := !(x == ("__debug__" : Str)) && !(x == ("__classdict__" : Str))

theorem SE_var {i : Nat} {x : Str} {pos : Pos} (hi : names[i]? = some x) (ha : accS sc x = true) (hp : plainName x = true) : SE X n sc names (.Name x pos) (.var i) := by
  intro env A s Φ ρ σ Q he eo _ ok F h
  obtain ⟨m, cm, μ, F⟩ := F
  have hv := F.vars i x hi (acc_of he ha)
  simp only [plainName, Bool.and_eq_true, Bool.not_eq_true'] at hp
  obtain ⟨d, e, h⟩ := MV.val_of h
  have hv : ∃ v, look env m cm x = some v ∧ Rd Φ v d := by
    rcases e with e | ⟨v, e⟩ <;> rw [e] at hv
    · exact hv.2
    · exact ⟨v, hv.2⟩
  obtain ⟨v, h1, h2⟩ := hv
  exact load_var eo F (acc_of he ha) h1 hp.1 hp.2 ⟨d, σ, Φ, Step.refl ok, h2, h⟩

theorem SEs_nil : SEs X n sc names [] [] := fun xx xx xx xx xx xx xx xx xx xx xx ok xx h => Calls.spliced_nil ⟨_, _, _, Step.refl ok, .nil, h⟩

noncomputable def notStar : Expr → Bool
  | .Starred .. => false
  | _ => true
theorem starEach_cons {x : Expr} {xs : List Expr} {env : Env} (h : notStar x = true) : starEach (x :: xs) env = (false, eval x env) :: starEach xs env := by
  cases x <;> first | rfl | cases h
theorem SEs_cons {x : Expr} {xs : List Expr} {e : E} {es : List E} (hx : SE X n sc names x e) (hxs : SEs X n sc names xs es) (hs : notStar x = true) : SEs X n sc names (x :: xs) (e :: es) := by
  intro env A s Φ ρ σ Q pos he eo hr ok F h
  simp only [mEvals] at h
  rw [starEach_cons hs]
  show wpAny _ A (spliced ((false, eval x env) :: backTo pos (starEach xs env))) _ _ s
  refine Calls.spliced_cons (wpAny_mono (hx env A s Φ ρ σ _ he eo hr ok F h) ?_ fun xx xx h => h.elim)
  rintro v s₁ ⟨d, σ₁, Φ₁, st, r, q⟩
  refine wpAny_mono (hxs env A s₁ Φ₁ ρ σ₁ _ pos he eo hr st.ok (F.step st) q) ?_ fun xx xx h => h.elim
  rintro vs s₂ ⟨ds, σ₂, Φ₂, st₂, r₂, q₂⟩
  exact ⟨_, σ₂, Φ₂, st.trans st₂, .cons (r.mono st₂.mono) r₂, q₂⟩
end
theorem small_bits {i : Int} (h : small i) : Builtin.Int.intBits i ≤ 64 := by
  obtain ⟨h1, h2⟩ := h
  exact intBits_le_64 (by omega) (by omega)
theorem small_log {i : Int} (h : small i) : i.natAbs.log2 < 9000 := by
  obtain ⟨h1, h2⟩ := h
  by_cases h0 : i.natAbs = 0
  · rw [h0]; decide +kernel
  · have : i.natAbs.log2 < 65 := (Nat.log2_lt h0).mpr (by omega)
    omega

mutual
theorem Rd.reads {Φ : Fz} {h : Heap} (hk : ∀ b o, Φ b = some o → h.get? b = some o) : ∀ {v : Value} {d : D} (n : Nat), Rd Φ v d → d.ok n = true → ∃ as, Reads h v d.py as
  | _, _, _, .none, _ => ⟨_, by simpa [D.py] using Reads.none⟩
  | _, _, _, .bool b, _ => ⟨_, by simpa [D.py] using Reads.bool b⟩
  | _, _, _, .int i t, _ => ⟨_, by simpa [D.py] using Reads.int i t⟩
  | _, _, _, .str x t, _ => ⟨_, by simpa [D.py] using Reads.str x t⟩
  | _, _, 0, .tup _ _ _ _, hn => by simp [D.ok] at hn
  | _, _, 0, .lst _ _ _ _ _, hn => by simp [D.ok] at hn
  | _, _, n, .ref _, hn => by cases n <;> simp [D.ok] at hn
  | _, _, n + 1, .tup ho hc hd r, hn => by
    obtain ⟨as, q⟩ := RdAll.reads hk n r (by simpa [D.ok] using hn)
    rw [D.py]
    exact ⟨as, Reads.tuple (hk _ _ ho) hc hd q⟩
  | _, _, n + 1, .lst ho hc hd _ r, hn => by
    obtain ⟨as, q⟩ := RdAll.reads hk n r (by simpa [D.ok] using hn)
    rw [D.py]
    exact ⟨_, Reads.list (hk _ _ ho) hc hd q⟩
theorem RdAll.reads {Φ : Fz} {h : Heap} (hk : ∀ b o, Φ b = some o → h.get? b = some o) : ∀ {vs : List Value} {ds : List D} (n : Nat), RdAll Φ vs ds → (∀ d ∈ ds, d.ok n = true) → ∃ as, ReadsAll h vs (D.pys ds) as
  | _, _, _, .nil, _ => ⟨_, by rw [D.pys]; exact ReadsAll.nil⟩
  | _, _, n, .cons hd r, hn => by
    obtain ⟨as, q⟩ := Rd.reads hk n hd (hn _ (.head _))
    obtain ⟨bs, p⟩ := RdAll.reads hk n r fun d hm => hn d (.tail _ hm)
    rw [D.pys]
    exact ⟨_, ReadsAll.cons q p⟩
end
theorem ok_lay : ∀ (n : Nat) (d : D), d.ok n = true → d.py.canLay0 = true ∧ d.py.depth ≤ n := by
  have all : ∀ (n : Nat), (∀ d : D, d.ok n = true → d.py.canLay0 = true ∧ d.py.depth ≤ n) → ∀ ds : List D, (∀ d ∈ ds, d.ok n = true) → PyData.canLayAll0 (D.pys ds) = true ∧ PyData.depthAll (D.pys ds) ≤ n := by
    intro n ih ds
    induction ds with
    | nil => intro _; simp [D.pys, PyData.canLayAll0, PyData.depthAll]
    | cons d ds hi =>
      intro h
      have h1 := ih d (h d (.head _))
      have h2 := hi fun e he => h e (.tail _ he)
      simp only [D.pys, PyData.canLayAll0, PyData.depthAll, h1.1, h2.1, Bool.and_self, true_and]
      have a1 := h1.2
      have a2 := h2.2
      omega
  intro n
  induction n with
  | zero =>
    intro d h
    cases d <;> simp_all [D.ok, D.py, PyData.canLay0, PyData.depth]
  | succ n ih =>
    intro d h
    cases d with
    | none => simp [D.py, PyData.canLay0, PyData.depth]
    | bool b => simp [D.py, PyData.canLay0, PyData.depth]
    | int i => simp [D.py, PyData.canLay0, PyData.depth]
    | str x => simp [D.ok] at h; simp [D.py, PyData.canLay0, PyData.depth, h]
    | tup ds =>
      have q := all n ih ds (by simpa [D.ok] using h)
      have q2 := q.2
      simp only [D.py, PyData.canLay0, PyData.depth, q.1, true_and]
      omega
    | lst ds =>
      have q := all n ih ds (by simpa [D.ok] using h)
      have q2 := q.2
      simp only [D.py, PyData.canLay0, PyData.depth, q.1, true_and]
      omega
    | ref a => simp [D.ok] at h

theorem ok_shaped {n : Nat} {d : D} (h : d.ok n = true) (hn : n ≤ 64) : SeqAt.shaped d.py = true := by
  have q := ok_lay n d h
  unfold SeqAt.shaped
  rw [q.1, Bool.true_and]
  exact decide_eq_true (Nat.le_trans q.2 hn)

theorem pys_any (ds : List D) (d : D) : ((D.pys ds).any fun y => PyData.eqv y d.py) = ds.any fun y => eqv y d := by
  induction ds with
  | nil => rfl
  | cons x ds ih => simp only [D.pys, List.any_cons, ih, eqv]

section
variable {X : Cx} {n : Nat} {sc : Scope} {names : List Str}

noncomputable def opOf : BOp → Operator
  | .add => .Add
  | .sub => .Sub
  | .mul => .Mult
  | .fdiv => .FloorDiv
  | .mod => .Mod

set_option tactic.hygienic true in
theorem bin_sound {op : BOp} {A : Around} {s : Shared} {a b : Value} {x y : D} {Φ : Fz} {σ : Sg} {Q : D → Sg → Prop} (ok : Ok X.g σ Φ s.heap) (ra : Rd Φ a x) (rb : Rd Φ b y)
    (h : binT op x y fun r => Q r σ) : wpAny (model X.prog X.w) A (binaryOp (opOf op) a b) (Ev X s Φ σ Q) No s := by
  replace h := bin_of h
  obtain ⟨r, hr, h⟩ := h
  cases hr <;> cases ra <;> cases rb
  · exact add_int ⟨_, _, _, Step.tok ok _, .int _ _, h⟩
  · exact sub_int ⟨_, _, _, Step.tok ok _, .int _ _, h⟩
  · rename_i hm _ _
    refine mul_int ⟨_, _, _, Step.tok ok _, .int _ _, h⟩ ?_
    rcases hm with h | h
    · exact IntMulOk.of_left (small_bits h)
    · exact IntMulOk.of_right (small_bits h)
  · rename_i h0 h1 _ _; exact floordiv_int h0 ⟨_, _, _, Step.tok ok _, .int _ _, h⟩ (Or.inl (PyProof.noPylong_of_log2 (small_log h1)))
  · rename_i h0 _ _; exact mod_int' h0 ⟨_, _, _, Step.tok ok _, .int _ _, h⟩

theorem SE_bin {op : BOp} {o : Operator} {l r : Expr} {a b : E} {pos : Pos} (ho : opOf op = o) (hl : SE X n sc names l a) (hr : SE X n sc names r b) : SE X n sc names (.BinOp l o r pos) (.bin op a b) := by
  intro env A s Φ ρ σ Q he eo hroom ok F h
  subst ho
  refine wpAny_BinOp (wpAny_mono (hl env A s Φ ρ σ _ he eo hroom ok F h) ?_ fun xx xx h => h.elim)
  rintro v s₁ ⟨d, σ₁, Φ₁, st, r, q⟩
  refine wpAny_mono (hr env A s₁ Φ₁ ρ σ₁ _ he eo hroom st.ok (F.step st) q) ?_ fun xx xx h => h.elim
  rintro v₂ s₂ ⟨d₂, σ₂, Φ₂, st₂, r₂, q₂⟩
  refine wpAny_mono (bin_sound (Q := Q) st₂.ok (r.mono st₂.mono) r₂ q₂) ?_ fun xx xx h => h.elim
  rintro v₃ s₃ ⟨d₃, σ₃, Φ₃, st₃, r₃, q₃⟩
  exact ⟨d₃, σ₃, Φ₃, (st.trans st₂).trans st₃, r₃, q₃⟩

theorem SE_neg {x : Expr} {a : E} {pos : Pos} (hx : SE X n sc names x a) : SE X n sc names (.UnaryOp .USub x pos) (.neg a) := by
  intro env A s Φ ρ σ Q he eo hroom ok F h
  refine UnaryOp_ (wpAny_mono (hx env A s Φ ρ σ _ he eo hroom ok F h) ?_ fun xx xx h => h.elim)
  rintro v s₁ ⟨d, σ₁, Φ₁, st, r, q⟩
  obtain ⟨i, rfl, q⟩ := D.int_of q
  cases r
  exact neg_int ⟨_, _, _, st.trans (Step.tok st.ok _), .int _ _, q⟩

noncomputable def cmpOf : COp → CmpOp
  | .lt => .Lt | .le => .LtE | .gt => .Gt | .ge => .GtE | .eq => .Eq | .ne => .NotEq | .is_ => .Is | .isn => .IsNot | .in_ => .In | .nin => .NotIn

theorem cmp_sound {op : COp} {A : Around} {s : Shared} {a b : Value} {x y : D} {Φ : Fz} {σ : Sg} {P : Bool → Prop} (hr : Room n A) (ok : Ok X.g σ Φ s.heap) (ra : Rd Φ a x) (rb : Rd Φ b y)
    (h : cmpT op x y P) : wpAny (model X.prog X.w) A (compareOp (cmpOf op) a b) (fun v s' => s' = s ∧ ∃ r, v = .bool r ∧ P r) No s := by
  have hk : ∀ b o, Φ b = some o → s.heap.get? b = some o := fun b o e => (ok.frz b o e).1
  have hu : A.units + 64 < cLine := by have := hr.2.2; omega
  replace h := cmp_of h
  obtain ⟨r, hc, h⟩ := h
  cases hc with
  | lt => cases ra; cases rb; exact lt_int ⟨rfl, _, rfl, h⟩
  | le => cases ra; cases rb; exact le_int ⟨rfl, _, rfl, h⟩
  | gt => cases ra; cases rb; exact gt_int ⟨rfl, _, rfl, h⟩
  | ge => cases ra; cases rb; exact ge_int ⟨rfl, _, rfl, h⟩
  | eq _ _ h1 h2 =>
    obtain ⟨as, qa⟩ := ra.reads hk 8 h1
    obtain ⟨bs, qb⟩ := rb.reads hk 8 h2
    exact eq_dataH qa qb (ok_shaped h1 (by decide)) (ok_shaped h2 (by decide)) hu ⟨rfl, _, rfl, h⟩
  | ne _ _ h1 h2 =>
    obtain ⟨as, qa⟩ := ra.reads hk 8 h1
    obtain ⟨bs, qb⟩ := rb.reads hk 8 h2
    exact ne_dataH qa qb (ok_shaped h1 (by decide)) (ok_shaped h2 (by decide)) hu ⟨rfl, _, rfl, h⟩
  | is_ =>
    cases rb
    refine is_none ⟨rfl, _, rfl, ?_⟩
    cases ra <;> exact h
  | isn =>
    cases rb
    refine isNot_none ⟨rfl, _, rfl, ?_⟩
    cases ra <;> exact h
  | in_ _ ds h1 h2 =>
    obtain ⟨as, qa⟩ := ra.reads hk 8 h1
    obtain ⟨bs, qb⟩ := rb.reads hk 9 h2
    have l := ok_lay 9 _ h2
    have l1 := ok_lay 8 _ h1
    rw [D.py] at qb l
    simp only [PyData.canLay0, PyData.depth] at l
    refine SeqAt.in_list_reads qb qa l.1 l1.1 ?_ ⟨rfl, _, rfl, by rw [pys_any]; exact h⟩
    have := Nat.min_le_right (PyData.depthAll (D.pys ds)) x.py.depth
    have := l1.2
    omega
  | nin _ ds h1 h2 =>
    obtain ⟨as, qa⟩ := ra.reads hk 8 h1
    obtain ⟨bs, qb⟩ := rb.reads hk 9 h2
    have l := ok_lay 9 _ h2
    have l1 := ok_lay 8 _ h1
    rw [D.py] at qb l
    simp only [PyData.canLay0, PyData.depth] at l
    refine SeqAt.notIn_list_reads qb qa l.1 l1.1 ?_ ⟨rfl, _, rfl, by rw [pys_any]; exact h⟩
    have := Nat.min_le_right (PyData.depthAll (D.pys ds)) x.py.depth
    have := l1.2
    omega

theorem SE_cmp {op : COp} {o : CmpOp} {l r : Expr} {a b : E} {pos : Pos} (ho : cmpOf op = o) (hl : SE X n sc names l a) (hr : SE X n sc names r b) (hm : behindInMarks o r = false) :
    SE X n sc names (.Compare l [o] [r] pos) (.cmp op a b) := by
  intro env A s Φ ρ σ Q he eo hroom ok F h
  subst ho
  refine wpAny_Compare1 (wpAny_mono (hl env A s Φ ρ σ _ he eo hroom ok F h) ?_ fun xx xx h => h.elim) hm
  rintro v s₁ ⟨d, σ₁, Φ₁, st, r, q⟩
  refine wpAny_mono (hr env A s₁ Φ₁ ρ σ₁ _ he eo hroom st.ok (F.step st) q) ?_ fun xx xx h => h.elim
  rintro v₂ s₂ ⟨d₂, σ₂, Φ₂, st₂, r₂, q₂⟩
  refine wpAny_mono (cmp_sound hroom st₂.ok (r.mono st₂.mono) r₂ q₂) ?_ fun xx xx h => h.elim
  rintro _ _ ⟨rfl, b, rfl, q₃⟩
  exact ⟨_, σ₂, Φ₂, st.trans st₂, .bool b, q₃⟩

theorem ST_cmp {op : COp} {o : CmpOp} {l r : Expr} {a b : E} {pos : Pos} (ho : cmpOf op = o) (hl : SE X n sc names l a) (hr : SE X n sc names r b) (hm : behindInMarks o r = false) :
    ST X n sc names (.Compare l [o] [r] pos) (.cmp op a b) := by
  intro env A s Φ ρ σ Q P he eo hroom ok F hQ h
  subst ho
  refine wpAny_isTrue_Compare1 (wpAny_mono (hl env A s Φ ρ σ _ he eo hroom ok F h) ?_ fun xx xx h => h.elim) hm
  rintro v s₁ ⟨d, σ₁, Φ₁, st, r, q⟩
  refine wpAny_mono (hr env A s₁ Φ₁ ρ σ₁ _ he eo hroom st.ok (F.step st) q) ?_ fun xx xx h => h.elim
  rintro v₂ s₂ ⟨d₂, σ₂, Φ₂, st₂, r₂, q₂⟩
  refine wpAny_mono (cmp_sound hroom st₂.ok (r.mono st₂.mono) r₂ q₂) ?_ fun xx xx h => h.elim
  rintro _ _ ⟨rfl, b, rfl, q⟩
  obtain ⟨c, hc, q₃⟩ := hQ _ _ q
  cases hc
  exact wpAny_truthy_bool ⟨σ₂, Φ₂, st.trans st₂, q₃⟩

theorem SE_cmp2 {o1 o2 : COp} {p1 p2 : CmpOp} {l r t : Expr} {a b c : E} {pos : Pos} (h1 : cmpOf o1 = p1) (h2 : cmpOf o2 = p2) (hl : SE X n sc names l a) (hr : SE X n sc names r b) (ht : SE X n sc names t c)
    (hm : lastMarks [p1, p2] [r, t] = false) : SE X n sc names (.Compare l [p1, p2] [r, t] pos) (.cmp2 o1 o2 a b c) := by
  intro env A s Φ ρ σ Q he eo hroom ok F h
  subst h1; subst h2
  refine Compare_chain (wpAny_mono (hl env A s Φ ρ σ _ he eo hroom ok F h) ?_ fun xx xx h => h.elim) hm
  rintro v s₁ ⟨d, σ₁, Φ₁, st, r, q⟩
  refine chain_link (wpAny_mono (hr env A s₁ Φ₁ ρ σ₁ _ he eo hroom st.ok (F.step st) q) ?_ fun xx xx h => h.elim)
  rintro v₂ s₂ ⟨d₂, σ₂, Φ₂, st₂, r₂, q₂⟩
  refine wpAny_mono (cmp_sound hroom st₂.ok (r.mono st₂.mono) r₂ q₂) ?_ fun xx xx h => h.elim
  rintro _ _ ⟨rfl, b, rfl, q₃⟩
  refine wpAny_truthy_bool ?_
  cases b with
  | false =>
    rw [if_neg (by simp)] at q₃ ⊢
    exact ⟨_, σ₂, Φ₂, st.trans st₂, .bool false, q₃⟩
  | true =>
    rw [if_pos rfl] at q₃ ⊢
    refine chain_last (wpAny_mono (ht env A _ Φ₂ ρ σ₂ _ he eo hroom st₂.ok ((F.step st).step st₂) q₃) ?_ fun xx xx h => h.elim)
    rintro v₄ s₄ ⟨d₄, σ₄, Φ₄, st₄, r₄, q₄⟩
    refine wpAny_mono (cmp_sound hroom st₄.ok (r₂.mono st₄.mono) r₄ q₄) ?_ fun xx xx h => h.elim
    rintro _ _ ⟨rfl, b, rfl, q₅⟩
    exact ⟨_, σ₄, Φ₄, (st.trans st₂).trans st₄, .bool b, q₅⟩

noncomputable def plainTest : Expr → Bool
  | .UnaryOp .Not .. => false
  | .BoolOp .. => false
  | .IfExp .. => false
  | .Compare .. => false
  | _ => true
theorem isTrue_eq {e : Expr} {env : Env} {whole : Sem Value} (h : plainTest e = true) : isTrue e env whole = (do let v ← whole; standAt e.pos; holding [v] (truthy v)) := by
  cases e with
  | UnaryOp op x p => cases op <;> first | rfl | cases h
  | BoolOp => cases h
  | IfExp => cases h
  | Compare => cases h
  | _ => rfl

theorem ST_plain {x : Expr} {e : E} (hx : SE X n sc names x e) (hp : plainTest x = true) : ST X n sc names x e := by
  intro env A s Φ ρ σ Q P he eo hroom ok F hQ h
  refine isTrue_plain (wpAny_mono (hx env A s Φ ρ σ _ he eo hroom ok F h) ?_ fun xx xx h => h.elim) (isTrue_eq hp)
  rintro v s₁ ⟨d, σ₁, Φ₁, st, r, q⟩
  obtain ⟨c, rfl, q'⟩ := hQ _ _ q
  cases r
  exact wpAny_truthy_bool ⟨σ₁, Φ₁, st, q'⟩

theorem ST_not {x : Expr} {e : E} {pos : Pos} (hx : ST X n sc names x e) : ST X n sc names (.UnaryOp .Not x pos) (.not_ e) := by
  intro env A s Φ ρ σ Q P he eo hroom ok F hQ h
  refine isTrue_not (wpAny_mono (hx env A s Φ ρ σ _ (fun b σ => P (!b) σ) he eo hroom ok F ?_ h) ?_ fun xx xx h => h.elim)
  · intro d σ q
    obtain ⟨b, rfl, q⟩ := D.bool_of q
    obtain ⟨c, hc, q⟩ := hQ _ _ q
    cases hc
    exact ⟨b, rfl, q⟩
  · rintro b s₁ ⟨σ₁, Φ₁, st, q⟩
    exact ⟨σ₁, Φ₁, st, q⟩

theorem SE_not {x : Expr} {e : E} {pos : Pos} (hx : SE X n sc names x e) : SE X n sc names (.UnaryOp .Not x pos) (.not_ e) := by
  intro env A s Φ ρ σ Q he eo hroom ok F h
  refine UnaryOp_ (wpAny_mono (hx env A s Φ ρ σ _ he eo hroom ok F h) ?_ fun xx xx h => h.elim)
  rintro v s₁ ⟨d, σ₁, Φ₁, st, r, q⟩
  obtain ⟨b, rfl, q⟩ := D.bool_of q
  cases r
  exact not_of (wpAny_truthy_bool ⟨_, σ₁, Φ₁, st, .bool _, q⟩)

theorem SE_one {op : BoolOp} {x : Expr} {e : E} {pos : Pos} (hx : SE X n sc names x e) : SE X n sc names (.BoolOp op [x] pos) e := by
  intro env A s Φ ρ σ Q he eo hroom ok F h
  exact BoolOp_one (hx env A s Φ ρ σ Q he eo hroom ok F h)
theorem SE_and {x y : Expr} {rest : List Expr} {a b : E} {pos : Pos} (hx : SE X n sc names x a) (hy : SE X n sc names (.BoolOp .And (y :: rest) pos) b) :
    SE X n sc names (.BoolOp .And (x :: y :: rest) pos) (.and_ a b) := by
  intro env A s Φ ρ σ Q he eo hroom ok F h
  refine BoolOp_and (wpAny_mono (hx env A s Φ ρ σ _ he eo hroom ok F h) ?_ fun xx xx h => h.elim)
  rintro v s₁ ⟨d, σ₁, Φ₁, st, r, q⟩
  obtain ⟨c, rfl, q⟩ := D.bool_of q
  cases r
  refine wpAny_truthy_bool ?_
  cases c with
  | false => exact ⟨_, σ₁, Φ₁, st, .bool false, q⟩
  | true =>
    refine wpAny_mono (hy env A s₁ Φ₁ ρ σ₁ _ he eo hroom st.ok (F.step st) q) ?_ fun xx xx h => h.elim
    rintro v₂ s₂ ⟨d₂, σ₂, Φ₂, st₂, r₂, q₂⟩
    exact ⟨_, σ₂, Φ₂, st.trans st₂, r₂, q₂⟩
theorem ST_one_and {x : Expr} {e : E} {pos : Pos} (hx : ST X n sc names x e) : ST X n sc names (.BoolOp .And [x] pos) e := by
  intro env A s Φ ρ σ Q P he eo hroom ok F hQ h
  refine isTrue_and (wpAny_mono (hx env A s Φ ρ σ Q P he eo hroom ok F hQ h) ?_ fun xx xx h => h.elim)
  rintro b s₁ ⟨σ₁, Φ₁, st, q⟩
  cases b with
  | false => exact ⟨σ₁, Φ₁, st, q⟩
  | true => exact isTrue_and_nil ⟨σ₁, Φ₁, st, q⟩
theorem ST_one_or {x : Expr} {e : E} {pos : Pos} (hx : ST X n sc names x e) : ST X n sc names (.BoolOp .Or [x] pos) e := by
  intro env A s Φ ρ σ Q P he eo hroom ok F hQ h
  refine isTrue_or (wpAny_mono (hx env A s Φ ρ σ Q P he eo hroom ok F hQ h) ?_ fun xx xx h => h.elim)
  rintro b s₁ ⟨σ₁, Φ₁, st, q⟩
  cases b with
  | true => exact ⟨σ₁, Φ₁, st, q⟩
  | false => exact isTrue_or_nil ⟨σ₁, Φ₁, st, q⟩
theorem ST_and {x y : Expr} {rest : List Expr} {a b : E} {pos : Pos} (hx : ST X n sc names x a) (hy : ST X n sc names (.BoolOp .And (y :: rest) pos) b) :
    ST X n sc names (.BoolOp .And (x :: y :: rest) pos) (.and_ a b) := by
  intro env A s Φ ρ σ Q P he eo hroom ok F hQ h
  refine isTrue_and (wpAny_mono (hx env A s Φ ρ σ _ (fun c σ => if c = true then mEval X n b ρ σ Q else Q (.bool false) σ) he eo hroom ok F (fun xx xx h => D.bool_of h) h) ?_ fun xx xx h => h.elim)
  rintro c s₁ ⟨σ₁, Φ₁, st, q⟩
  cases c with
  | false =>
    obtain ⟨c, hc, q⟩ := hQ _ _ q
    cases hc
    exact ⟨σ₁, Φ₁, st, q⟩
  | true =>
    refine wpAny_mono (hy env A s₁ Φ₁ ρ σ₁ Q P he eo hroom st.ok (F.step st) hQ q) ?_ fun xx xx h => h.elim
    rintro b s₂ ⟨σ₂, Φ₂, st₂, q₂⟩
    exact ⟨σ₂, Φ₂, st.trans st₂, q₂⟩
theorem ST_or {x y : Expr} {rest : List Expr} {a b : E} {pos : Pos} (hx : ST X n sc names x a) (hy : ST X n sc names (.BoolOp .Or (y :: rest) pos) b) :
    ST X n sc names (.BoolOp .Or (x :: y :: rest) pos) (.or_ a b) := by
  intro env A s Φ ρ σ Q P he eo hroom ok F hQ h
  refine isTrue_or (wpAny_mono (hx env A s Φ ρ σ _ (fun c σ => if c = true then Q (.bool true) σ else mEval X n b ρ σ Q) he eo hroom ok F (fun xx xx h => D.bool_of h) h) ?_ fun xx xx h => h.elim)
  rintro c s₁ ⟨σ₁, Φ₁, st, q⟩
  cases c with
  | true =>
    obtain ⟨c, hc, q⟩ := hQ _ _ q
    cases hc
    exact ⟨σ₁, Φ₁, st, q⟩
  | false =>
    refine wpAny_mono (hy env A s₁ Φ₁ ρ σ₁ Q P he eo hroom st.ok (F.step st) hQ q) ?_ fun xx xx h => h.elim
    rintro b s₂ ⟨σ₂, Φ₂, st₂, q₂⟩
    exact ⟨σ₂, Φ₂, st.trans st₂, q₂⟩

theorem push_step {s : Shared} {σ : Sg} {Φ : Fz} (ok : Ok X.g σ Φ s.heap) (o : Obj) : Step X.g s { s with heap := s.heap.push o } Φ Φ σ σ :=
  Step.keeps (tk := s.toks) ok fun xx xx e => Heap.get?_push_of_some _ e

theorem made_tup {s s₁ : Shared} {σ σ₁ : Sg} {Φ Φ₁ : Fz} {vs : List Value} {ds : List D} {Q : D → Sg → Prop} (st : Step X.g s s₁ Φ Φ₁ σ σ₁) (r : RdAll Φ₁ vs ds) (q : Q (.tup ds) σ₁) :
    Ev X s Φ σ Q (.ref s₁.heap.objs.size) { s₁ with heap := s₁.heap.push { cls := .type "tuple", data := .seq vs.toArray } } := by
  have hn := size_none s₁.heap
  refine ⟨_, σ₁, _, (st.trans (push_step st.ok _)).freeze (st.live _ hn) (Heap.get?_push_size _ rfl) (st.ok.freshS hn) (st.ok.freshF hn), ?_, q⟩
  refine Rd.tup (Fz.put_self _ _ _) rfl rfl ?_
  simpa using r.mono (Fz.le_put (st.ok.freshF hn))

theorem SE_tup {xs : List Expr} {es : List E} {k : Nat} {pos : Pos} (hx : SEs X n sc names xs es) : SE X n sc names (.Tuple xs k pos) (.tupE es) := by
  intro env A s Φ ρ σ Q he eo hroom ok F h
  refine wpAny_Tuple (wpAny_mono (hx env A s Φ ρ σ _ pos he eo hroom ok F h) ?_ fun xx xx h => h.elim)
  rintro vs s₁ ⟨ds, σ₁, Φ₁, st, r, hlen, q⟩
  exact ⟨by rw [r.length]; unfold sizeLine; (first | with_reducible exact oo3 ‹_› | omega), made_tup st r q⟩
theorem SL_disp {xs : List Expr} {es : List E} {pos : Pos} (hx : SEs X n sc names xs es) : SL X n sc names (.List xs pos) (.disp es) := by
  intro env A s Φ ρ σ Q he eo hroom ok F h
  refine wpAny_List (wpAny_mono (hx env A s Φ ρ σ _ pos he eo hroom ok F h) ?_ fun xx xx h => h.elim)
  rintro vs s₁ ⟨ds, σ₁, Φ₁, st, r, hlen, q⟩
  have hsz : vs.length ≤ sizeLine := by rw [r.length]; unfold sizeLine; (first | with_reducible exact oo3 ‹_› | omega)
  exact ⟨hsz, s₁.heap.objs.size, vs.toArray, ds, σ₁, Φ₁, rfl, st.trans (push_step st.ok _), st.live _ (size_none _), ⟨0, Heap.get?_push_size _ rfl⟩, st.ok.freshS (size_none _), st.ok.freshF (size_none _), by simpa using r, q⟩

theorem SE_lst {x : Expr} {l : L} (hx : SL X n sc names x l) : SE X n sc names x (.lst l) := by
  intro env A s Φ ρ σ Q he eo hroom ok F h
  refine wpAny_mono (hx env A s Φ ρ σ _ he eo hroom ok F h) ?_ fun xx xx h => h.elim
  rintro v s₁ ⟨a, vs, ds, σ₁, Φ₁, rfl, st, hn, ⟨k, ho⟩, h1, h2, r, q⟩
  exact ⟨_, σ₁, _, st.freeze hn ho h1 h2, .lst (Fz.put_self _ _ _) rfl rfl rfl (r.mono (Fz.le_put h2)), q⟩
end
section
variable {X : Cx} {n : Nat} {sc : Scope} {names : List Str}

theorem Ok.gkeep {σ : Sg} {Φ : Fz} {h : Heap} (ok : Ok X.g σ Φ h) : ∀ b o, X.g.get? b = some o → h.get? b = some o := fun b o e => (ok.base b o e).1

theorem name_blt {env : Env} {A : Around} {s : Shared} {σ : Sg} {Φ : Fz} {x : Str} {v : Value} {p : Pos} {Q : Value → Shared → Prop} (G : Gnd X) (ok : Ok X.g σ Φ s.heap) (eo : EnvOk env)
    (hx : env.kindOf x = some .globalImplicit) (hv : (x, v) ∈ bNames) (hd : (x == ("__debug__" : Str)) = false) (h : Q v s) : wpAny (model X.prog X.w) A (eval (.Name x p) env) Q No s := by
  have b := G.blt _ hv
  refine Calls.Name_function_global eo.kind hx (Calls.loadGlobal_builtin (mg := X.mg) (mb := X.mb) ?_ b.1 ?_ b.2 h) hd
  · rw [eo.glob]; exact G.gl.keeps ok.gkeep
  · rw [eo.blt]; exact G.bl.keeps ok.gkeep

theorem name_fn {env : Env} {A : Around} {s : Shared} {σ : Sg} {Φ : Fz} {x : Str} {v : Value} {p : Pos} {Q : Value → Shared → Prop} (G : Gnd X) (ok : Ok X.g σ Φ s.heap) (eo : EnvOk env)
    (hx : env.kindOf x = some .globalImplicit) (hv : X.mg x = some v) (hd : (x == ("__debug__" : Str)) = false) (h : Q v s) : wpAny (model X.prog X.w) A (eval (.Name x p) env) Q No s := by
  refine Calls.Name_function_global eo.kind hx (Calls.loadGlobal_global (mg := X.mg) ?_ hv h) hd
  rw [eo.glob]; exact G.gl.keeps ok.gkeep

theorem plain_star {pos : Pos} {env : Env} : ∀ (xs : List Expr), xs.all notStar = true → (backTo pos (starEach xs env)).any (·.1) = false
  | [], _ => rfl
  | x :: xs, h => by
    simp only [List.all_cons, Bool.and_eq_true] at h
    rw [starEach_cons h.1]
    show (false || (backTo pos (starEach xs env)).any (·.1)) = false
    rw [plain_star xs h.2]; rfl

theorem SE_call {f : Str} {x : Expr} {xs : List Expr} {es : List E} {p pos : Pos} (G : Gnd X) (hf : IsFn X f) (hx : SEs X n sc names (x :: xs) es) (hk : sc.names.lookup f = some .globalImplicit) (hs : (x :: xs).all notStar = true)
    (hd : (f == ("__debug__" : Str)) = false) : SE X n sc names (.Call (.Name f p) (x :: xs) [] pos) (.call f es) := by
  intro env A s Φ ρ σ Q he eo hroom ok F h
  have hkf : env.kindOf f = some .globalImplicit := by rw [Env.kindOf_sc he]; exact hk
  simp only [List.all_cons, Bool.and_eq_true] at hs
  refine Call_Name rfl ?_
  obtain ⟨a, o, fd, h1, h2, h3⟩ := hf
  refine name_fn G ok eo hkf h1 hd ?_
  refine callWith_def (o := o) (fd := fd) h3 (wpAny_mono (hx env A s Φ ρ σ _ pos he eo hroom ok F h) ?_ fun xx xx h => h.elim) (starEach_cons hs.1)
  rintro vs s₁ ⟨ds, σ₁, Φ₁, st, r, q⟩
  refine ⟨(st.ok.base _ _ h2).1, wpAny_mono ((q a h1).wp hroom st.ok r) ?_ fun xx xx h => h.elim⟩
  rintro v s₂ ⟨d, σ₂, Φ₂, st₂, r₂, q₂⟩
  exact ⟨d, σ₂, Φ₂, st.trans st₂, r₂, q₂⟩

theorem call_blt {f : Str} {fv : Value} {x : Expr} {xs : List Expr} {es : List E} {p pos : Pos} {env : Env} {A : Around} {s : Shared} {Φ : Fz} {ρ : List MV} {σ : Sg} {Qs : List D → Sg → Prop} {K : Value → Shared → Prop}
    (G : Gnd X) (hv : (f, fv) ∈ bNames) (hx : SEs X n sc names (x :: xs) es) (hk : sc.names.lookup f = some .globalImplicit) (hs : (x :: xs).all notStar = true)
    (he : env.scope = sc) (eo : EnvOk env) (hroom : Room n A) (ok : Ok X.g σ Φ s.heap) (F : Frame X.g env names ρ σ Φ s.heap) (h : mEvals X n es ρ σ Qs)
    (hc : ∀ vs s₁ ds σ₁ Φ₁, Step X.g s s₁ Φ Φ₁ σ σ₁ → RdAll Φ₁ vs ds → Qs ds σ₁ → wpAny (model X.prog X.w) A (call fv vs) K No s₁) :
    wpAny (model X.prog X.w) A (eval (.Call (.Name f p) (x :: xs) [] pos) env) K No s := by
  have hkf : env.kindOf f = some .globalImplicit := by rw [Env.kindOf_sc he]; exact hk
  simp only [List.all_cons, Bool.and_eq_true] at hs
  refine Call_Name rfl ?_
  have hd : (f == ("__debug__" : Str)) = false ∧ ((∃ id, fv = .builtin id) ∨ ∃ T, fv = .type T) := by
    simp only [bNames, List.mem_cons, Prod.mk.injEq, List.not_mem_nil, or_false] at hv
    rcases hv with ⟨rfl, rfl⟩ | ⟨rfl, rfl⟩ | ⟨rfl, rfl⟩ | ⟨rfl, rfl⟩ | ⟨rfl, rfl⟩ | ⟨rfl, rfl⟩ | ⟨rfl, rfl⟩ | ⟨rfl, rfl⟩ | ⟨rfl, rfl⟩ | ⟨rfl, rfl⟩ | ⟨rfl, rfl⟩ | ⟨rfl, rfl⟩ | ⟨rfl, rfl⟩ <;>
      first | exact ⟨by decide, .inl ⟨_, rfl⟩⟩ | exact ⟨by decide, .inr ⟨_, rfl⟩⟩
  refine name_blt G ok eo hkf hv hd.1 ?_
  have main : wpAny (model X.prog X.w) A (spliced (backTo pos (starEach (x :: xs) env))) (fun vs s₁ => wpAny (model X.prog X.w) A (call fv vs) K No s₁) No s := by
    refine wpAny_mono (hx env A s Φ ρ σ _ pos he eo hroom ok F h) ?_ fun xx xx h => h.elim
    rintro vs s₁ ⟨ds, σ₁, Φ₁, st, r, q⟩
    exact hc vs s₁ ds σ₁ Φ₁ st r q
  rcases hd.2 with ⟨id, rfl⟩ | ⟨T, rfl⟩
  · exact PyProof.Rows.callWith_builtin1 main (starEach_cons hs.1) (plain_star xs hs.2)
  · exact PyProof.Rows.callWith_type1 main (starEach_cons hs.1) (plain_star xs hs.2)

theorem Rd.isList {Φ : Fz} {σ : Sg} {h : Heap} {a : Addr} {ds : List D} (ok : Ok X.g σ Φ h) (r : Rd Φ (.ref a) (.lst ds)) : ∃ vs, h.IsList a vs ∧ RdAll Φ vs.toList ds ∧ Φ a ≠ Option.none := by
  cases r with
  | lst ho hc hd _ r => exact ⟨_, ⟨_, (ok.frz _ _ ho).1, hc, _, hd⟩, r, by rw [ho]; simp⟩
theorem Rd.isTup {Φ : Fz} {σ : Sg} {h : Heap} {a : Addr} {ds : List D} (ok : Ok X.g σ Φ h) (r : Rd Φ (.ref a) (.tup ds)) : ∃ vs, IsTup h a vs ∧ RdAll Φ vs.toList ds ∧ Φ a ≠ Option.none := by
  cases r with
  | tup ho hc hd r => exact ⟨_, ⟨_, (ok.frz _ _ ho).1, hc, _, hd⟩, r, by rw [ho]; simp⟩
theorem Rd.lst_ref {Φ : Fz} {v : Value} {ds : List D} (r : Rd Φ v (.lst ds)) : ∃ a, v = .ref a := by cases r; exact ⟨_, rfl⟩
theorem Rd.tup_ref {Φ : Fz} {v : Value} {ds : List D} (r : Rd Φ v (.tup ds)) : ∃ a, v = .ref a := by cases r; exact ⟨_, rfl⟩

theorem intsRead {Φ : Fz} : ∀ {vs : List Value} {ns : List Int}, RdAll Φ vs (ns.map D.int) → ∃ xs : List (Int × Tok), vs = xs.map (fun p => Value.int p.1 p.2) ∧ xs.map (·.1) = ns
  | [], [], _ => ⟨[], rfl, rfl⟩
  | [], _ :: _, h => by cases h
  | _ :: _, [], h => by cases h
  | v :: vs, i :: ns, h => by
    cases h with
    | cons h r =>
      obtain ⟨xs, rfl, rfl⟩ := intsRead r
      cases h with
      | int i t => exact ⟨(i, t) :: xs, rfl, rfl⟩

theorem intItems_list (xs : List (Int × Tok)) : intItems xs.toArray = (xs.map fun p => Value.int p.1 p.2).toArray := by simp [intItems]

theorem numAt_list (xs : List (Int × Tok)) (i : Nat) : numAt xs.toArray i = (xs.map (·.1)).getD i 0 := by simp [numAt, List.getD]


theorem SE_len {x : Expr} {e : E} {p pos : Pos} (G : Gnd X) (hx : SE X n sc names x e) (hk : sc.names.lookup ("len" : Str) = some .globalImplicit) (hs : notStar x = true) :
    SE X n sc names (.Call (.Name "len" p) [x] [] pos) (.bi .len [e]) := by
  intro env A s Φ ρ σ Q he eo hroom ok F h
  refine call_blt G (f := "len") (fv := .builtin "len") (by simp [bNames]) (SEs_cons hx SEs_nil hs) hk (by simp [hs]) he eo hroom ok F h ?_
  intro vs s₁ ds σ₁ Φ₁ st r q
  replace q := bi_of q
  obtain ⟨d, hd, q⟩ := q
  cases hd with
  | lenT ds hlen =>
    cases r with
    | cons r1 r2 =>
      cases r2
      obtain ⟨a, rfl⟩ := r1.tup_ref
      obtain ⟨vs, hl, ra, _⟩ := r1.isTup st.ok
      have e := ra.length
      simp only [Array.length_toList] at e
      refine PyProof.Rows.len_tuple hl (by omega) ?_
      exact ⟨_, σ₁, Φ₁, st.trans (Step.tok st.ok _), .int _ _, by rw [e]; exact q⟩
  | lenL ds hlen =>
    cases r with
    | cons r1 r2 =>
      cases r2
      obtain ⟨a, rfl⟩ := r1.lst_ref
      obtain ⟨vs, hl, ra, _⟩ := r1.isList st.ok
      have e := ra.length
      simp only [Array.length_toList] at e
      refine Calls.call_len_list hl (by omega) ?_
      exact ⟨_, σ₁, Φ₁, st.trans (Step.tok st.ok _), .int _ _, by rw [e]; exact q⟩

theorem preSum_list (xs : List (Int × Tok)) : preSum (numAt xs.toArray) xs.toArray.size = (xs.map (·.1)).sum := by
  rw [preSum_eq]
  have : xs.toArray.size = (xs.map (·.1)).length := by simp
  rw [this]
  simp only [List.take_length]

theorem SE_sum {x : Expr} {e : E} {p pos : Pos} (G : Gnd X) (hx : SE X n sc names x e) (hk : sc.names.lookup ("sum" : Str) = some .globalImplicit) (hs : notStar x = true) :
    SE X n sc names (.Call (.Name "sum" p) [x] [] pos) (.bi .sum [e]) := by
  intro env A s Φ ρ σ Q he eo hroom ok F h
  refine call_blt G (f := "sum") (fv := .builtin "sum") (by simp [bNames]) (SEs_cons hx SEs_nil hs) hk (by simp [hs]) he eo hroom ok F h ?_
  intro vs s₁ ds σ₁ Φ₁ st r q
  replace q := bi_of q
  obtain ⟨d, hd, q⟩ := q
  cases hd with
  | sum ns =>
    cases r with
    | cons r1 r2 =>
      cases r2
      obtain ⟨a, rfl⟩ := r1.lst_ref
      obtain ⟨vs, hl, ra, _⟩ := r1.isList st.ok
      obtain ⟨xs, hxs, rfl⟩ := intsRead ra
      have hv : vs = intItems xs.toArray := by rw [intItems_list, ← hxs]
      subst hv
      refine sum_intListG hroom.1 hl fun h' tk t' hk => ?_
      exact ⟨_, σ₁, Φ₁, st.trans (Step.keeps st.ok hk), .int _ _, by rw [preSum_list]; exact q⟩

theorem SE_min2 {x y : Expr} {e f : E} {p pos : Pos} (G : Gnd X) (hx : SE X n sc names x e) (hy : SE X n sc names y f) (hk : sc.names.lookup ("min" : Str) = some .globalImplicit) (hs : notStar x = true) (ht : notStar y = true) :
    SE X n sc names (.Call (.Name "min" p) [x, y] [] pos) (.bi .min2 [e, f]) := by
  intro env A s Φ ρ σ Q he eo hroom ok F h
  refine call_blt G (f := "min") (fv := .builtin "min") (by simp [bNames]) (SEs_cons hx (SEs_cons hy SEs_nil ht) hs) hk (by simp [hs, ht]) he eo hroom ok F h ?_
  intro vs s₁ ds σ₁ Φ₁ st r q
  replace q := bi_of q
  obtain ⟨d, hd, q⟩ := q
  cases hd with
  | min2 a b =>
    cases r with
    | cons r1 r2 =>
      cases r2 with
      | cons r2 r3 =>
        cases r3; cases r1; cases r2
        refine min_two_ints hroom.1 fun h' tk hk => ?_
        split at q
        · rw [if_pos (by assumption)]; exact ⟨_, σ₁, Φ₁, st.trans (Step.keeps st.ok hk), .int _ _, q⟩
        · rw [if_neg (by assumption)]; exact ⟨_, σ₁, Φ₁, st.trans (Step.keeps st.ok hk), .int _ _, q⟩

theorem getD_lt {l : List Int} {k : Nat} (h : k < l.length) : l.getD k 0 = l[k] := by simp [List.getD, h]

theorem best_at {xs : List (Int × Tok)} {k : Nat} {v : Value} (hk : k < xs.length) (h : (intItems xs.toArray)[k]? = some v) : ∃ m t, v = .int m t ∧ m ∈ xs.map (·.1) ∧ numAt xs.toArray k = m := by
  obtain ⟨t, rfl⟩ := intItems_at h
  refine ⟨_, t, rfl, ?_, rfl⟩
  rw [numAt_list]
  have : k < (xs.map (·.1)).length := by simpa using hk
  rw [getD_lt this]
  exact List.getElem_mem _

theorem SE_max1 {x : Expr} {e : E} {p pos : Pos} (G : Gnd X) (hx : SE X n sc names x e) (hk : sc.names.lookup ("max" : Str) = some .globalImplicit) (hs : notStar x = true) :
    SE X n sc names (.Call (.Name "max" p) [x] [] pos) (.bi .max1 [e]) := by
  intro env A s Φ ρ σ Q he eo hroom ok F h
  refine call_blt G (f := "max") (fv := .builtin "max") (by simp [bNames]) (SEs_cons hx SEs_nil hs) hk (by simp [hs]) he eo hroom ok F h ?_
  intro vs s₁ ds σ₁ Φ₁ st r q
  replace q := bi_of q
  obtain ⟨d, hd, q⟩ := q
  cases hd with
  | max1 ns m₀ hm₀ hall =>
    cases r with
    | cons r1 r2 =>
      cases r2
      obtain ⟨a, rfl⟩ := r1.lst_ref
      obtain ⟨vs, hl, ra, _⟩ := r1.isList st.ok
      obtain ⟨xs, hxs, rfl⟩ := intsRead ra
      have hv : vs = intItems xs.toArray := by rw [intItems_list, ← hxs]
      subst hv
      have hpos : 0 < xs.length := by cases xs with | nil => simp at hm₀ | cons => simp
      refine max_intList hroom.1 hl (by simpa using hpos) fun v h' tk hv hk => ?_
      have ab := argBest_gt (numAt xs.toArray) (xs.toArray.size - 1)
      simp only [List.size_toArray] at ab hv
      obtain ⟨m, t, rfl, hm, hmk⟩ := best_at (by omega) hv
      obtain ⟨j, hj, ej⟩ := List.mem_iff_getElem.mp hm₀
      have := ab.2 j (by simp at hj; omega)
      rw [hmk, numAt_list, getD_lt hj, ej] at this
      have e : m = m₀ := Int.le_antisymm (hall _ hm) this
      subst e
      exact ⟨_, σ₁, Φ₁, st.trans (Step.keeps st.ok hk), .int _ _, q⟩

theorem SE_min1 {x : Expr} {e : E} {p pos : Pos} (G : Gnd X) (hx : SE X n sc names x e) (hk : sc.names.lookup ("min" : Str) = some .globalImplicit) (hs : notStar x = true) :
    SE X n sc names (.Call (.Name "min" p) [x] [] pos) (.bi .min1 [e]) := by
  intro env A s Φ ρ σ Q he eo hroom ok F h
  refine call_blt G (f := "min") (fv := .builtin "min") (by simp [bNames]) (SEs_cons hx SEs_nil hs) hk (by simp [hs]) he eo hroom ok F h ?_
  intro vs s₁ ds σ₁ Φ₁ st r q
  replace q := bi_of q
  obtain ⟨d, hd, q⟩ := q
  cases hd with
  | min1 ns m₀ hm₀ hall =>
    cases r with
    | cons r1 r2 =>
      cases r2
      obtain ⟨a, rfl⟩ := r1.lst_ref
      obtain ⟨vs, hl, ra, _⟩ := r1.isList st.ok
      obtain ⟨xs, hxs, rfl⟩ := intsRead ra
      have hv : vs = intItems xs.toArray := by rw [intItems_list, ← hxs]
      subst hv
      have hpos : 0 < xs.length := by cases xs with | nil => simp at hm₀ | cons => simp
      refine min_intList hroom.1 hl (by simpa using hpos) fun v h' tk hv hk => ?_
      have ab := argBest_lt (numAt xs.toArray) (xs.toArray.size - 1)
      simp only [List.size_toArray] at ab hv
      obtain ⟨m, t, rfl, hm, hmk⟩ := best_at (by omega) hv
      obtain ⟨j, hj, ej⟩ := List.mem_iff_getElem.mp hm₀
      have := ab.2 j (by simp at hj; omega)
      rw [hmk, numAt_list, getD_lt hj, ej] at this
      have e : m = m₀ := Int.le_antisymm this (hall _ hm)
      subst e
      exact ⟨_, σ₁, Φ₁, st.trans (Step.keeps st.ok hk), .int _ _, q⟩

set_option tactic.hygienic true in
theorem SE_isi {T : String} {x : Expr} {e : E} {b : Bi} {p p' pos : Pos} (G : Gnd X) (hb : (b, T) ∈ [(Bi.isint, "int"), (Bi.isbool, "bool"), (Bi.islist, "list"), (Bi.istuple, "tuple")]) (hx : SE X n sc names x e)
    (hk : sc.names.lookup ("isinstance" : Str) = some .globalImplicit) (hT : sc.names.lookup (Str.ofString T) = some .globalImplicit) (hs : notStar x = true) :
    SE X n sc names (.Call (.Name "isinstance" p) [x, .Name (Str.ofString T) p'] [] pos) (.bi b [e]) := by
  intro env A s Φ ρ σ Q he eo hroom ok F h
  simp only [mEval, mEvals] at h
  have hTv : (Str.ofString T, Value.type T) ∈ bNames := by
    simp only [List.mem_cons, Prod.mk.injEq, List.not_mem_nil, or_false] at hb
    rcases hb with ⟨_, rfl⟩ | ⟨_, rfl⟩ | ⟨_, rfl⟩ | ⟨_, rfl⟩ <;> simp [bNames]
  have hTd : (Str.ofString T == ("__debug__" : Str)) = false := by
    simp only [List.mem_cons, Prod.mk.injEq, List.not_mem_nil, or_false] at hb
    rcases hb with ⟨_, rfl⟩ | ⟨_, rfl⟩ | ⟨_, rfl⟩ | ⟨_, rfl⟩ <;> decide
  refine Call_Name rfl ?_
  refine name_blt G ok eo (by rw [Env.kindOf_sc he]; exact hk) (v := .builtin "isinstance") (by simp [bNames]) (by decide) ?_
  refine PyProof.Rows.callWith_builtin1 ?_ (starEach_cons hs) (plain_star _ rfl)
  rw [starEach_cons hs]
  show wpAny _ A (spliced ((false, eval x env) :: (false, eval (.Name (Str.ofString T) p') env) :: [])) _ _ s
  refine Calls.spliced_cons (wpAny_mono (hx env A s Φ ρ σ _ he eo hroom ok F h) ?_ fun xx xx h => h.elim)
  rintro v s₁ ⟨d, σ₁, Φ₁, st, r, q⟩
  refine Calls.spliced_cons (name_blt G st.ok eo (by rw [Env.kindOf_sc he]; exact hT) hTv hTd ?_)
  refine Calls.spliced_nil ?_
  simp only [List.mem_cons, Prod.mk.injEq, List.not_mem_nil, or_false] at hb
  have fin0 : ∀ c, Q (.bool c) σ₁ → Ev X s Φ σ Q (.bool c) s₁ := fun c hc => ⟨_, σ₁, Φ₁, st, .bool c, hc⟩
  have fin1 : ∀ c, Q (.bool c) σ₁ → Ev X s Φ σ Q (.bool c) { s₁ with toks := s₁.toks + 1 } := fun c hc => ⟨_, σ₁, Φ₁, st.trans (Step.tok st.ok _), .bool c, hc⟩
  replace q : ∃ r, BiR b [d] r ∧ Q r σ₁ := bi_of (show biT b [d] fun r => Q r σ₁ from q)
  rcases hb with ⟨rfl, rfl⟩ | ⟨rfl, rfl⟩ | ⟨rfl, rfl⟩ | ⟨rfl, rfl⟩ <;> obtain ⟨d', hd', q⟩ := q <;> cases hd' <;> rename_i hq <;> cases r
  · exact IsiPair.NoneType_int (fin1 _ q)
  · exact IsiPair.bool_int (fin0 _ q)
  · exact IsiPair.int_int (fin0 _ q)
  · exact IsiPair.str_int (fin1 _ q)
  · rename_i ho hc hd _; exact IsiPair.tuple_int (st.ok.frz _ _ ho).1 hc (fin1 _ q)
  · rename_i ho hc hd _ _; exact IsiPair.list_int (st.ok.frz _ _ ho).1 hc (fin1 _ q)
  · exact absurd rfl (hq _)
  · exact IsiPair.NoneType_bool (fin1 _ q)
  · exact IsiPair.bool_bool (fin0 _ q)
  · exact IsiPair.int_bool (fin1 _ q)
  · exact IsiPair.str_bool (fin1 _ q)
  · rename_i ho hc hd _; exact IsiPair.tuple_bool (st.ok.frz _ _ ho).1 hc (fin1 _ q)
  · rename_i ho hc hd _ _; exact IsiPair.list_bool (st.ok.frz _ _ ho).1 hc (fin1 _ q)
  · exact absurd rfl (hq _)
  · exact IsiPair.NoneType_list (fin1 _ q)
  · exact IsiPair.bool_list (fin1 _ q)
  · exact IsiPair.int_list (fin1 _ q)
  · exact IsiPair.str_list (fin1 _ q)
  · rename_i ho hc hd _; exact IsiPair.tuple_list (st.ok.frz _ _ ho).1 hc (fin1 _ q)
  · rename_i ho hc hd _ _; exact IsiPair.list_list (st.ok.frz _ _ ho).1 hc (fin0 _ q)
  · exact absurd rfl (hq _)
  · exact IsiPair.NoneType_tuple (fin1 _ q)
  · exact IsiPair.bool_tuple (fin1 _ q)
  · exact IsiPair.int_tuple (fin1 _ q)
  · exact IsiPair.str_tuple (fin1 _ q)
  · rename_i ho hc hd _; exact IsiPair.tuple_tuple (st.ok.frz _ _ ho).1 hc (fin0 _ q)
  · rename_i ho hc hd _ _; exact IsiPair.list_tuple (st.ok.frz _ _ ho).1 hc (fin1 _ q)
  · exact absurd rfl (hq _)

noncomputable def notSlice : Expr → Bool
  | .Slice .. => false
  | _ => true
theorem subscripted_eq {slice : Expr} {o i : Value} (h : notSlice slice = true) : subscripted slice false o i = operate [o, i] (getItem o i) := by
  cases slice <;> first | rfl | cases h

theorem seqIndex_nat {k : Int} {m : Nat} (h0 : 0 ≤ k) (h1 : k < m) : seqIndex? k m = some k.toNat := by
  unfold seqIndex?
  have hn : ¬ k < 0 := by first | with_reducible exact Int.not_lt.mpr ‹_› | omega
  simp only [hn, if_false]
  have : (decide (0 ≤ k) && decide (k < (m : Int))) = true := by simp; omega
  rw [if_pos this]

theorem SE_idx {x y : Expr} {a i : E} {pos : Pos} (hx : SE X n sc names x a) (hy : SE X n sc names y i) (hs : notSlice y = true) : SE X n sc names (.Subscript x y pos) (.idx a i) := by
  intro env A s Φ ρ σ Q he eo hroom ok F h
  refine Subscript_ (wpAny_mono (hx env A s Φ ρ σ _ he eo hroom ok F h) ?_ fun xx xx h => h.elim)
  rintro v s₁ ⟨d, σ₁, Φ₁, st, r, q⟩
  refine wpAny_mono (hy env A s₁ Φ₁ ρ σ₁ _ he eo hroom st.ok (F.step st) q) ?_ fun xx xx h => h.elim
  rintro w s₂ ⟨d₂, σ₂, Φ₂, st₂, r₂, q₂⟩
  have r' := r.mono st₂.mono
  obtain ⟨d₃, hd₃, q₃⟩ := idx_of q₂
  cases hd₃ with
  | tup ds k _ h0 h1 hd =>
    obtain ⟨a, rfl⟩ := r'.tup_ref
    obtain ⟨vs, hl, ra, _⟩ := r'.isTup st₂.ok
    obtain ⟨v, hv, rv⟩ := ra.get hd
    cases r₂ with
    | int _ t =>
      have hlt : k.toNat < vs.toList.length := by
        rcases Nat.lt_or_ge k.toNat vs.toList.length with h | h
        · exact h
        · rw [List.getElem?_eq_none h] at hv; cases hv
      refine tail_any hl.typeIs slot_tuple_getitem.lookup (getItem_tuple (j := k.toNat) hl (by omega) h1 ?_ (by simpa using hv) ⟨_, σ₂, Φ₂, st.trans st₂, rv, q₃⟩) (subscripted_eq hs)
      simp only [Array.length_toList] at hlt
      exact seqIndex_nat h0 (by omega)
  | lst ds k _ h0 h1 hd =>
    obtain ⟨a, rfl⟩ := r'.lst_ref
    obtain ⟨vs, hl, ra, _⟩ := r'.isList st₂.ok
    obtain ⟨v, hv, rv⟩ := ra.get hd
    cases r₂ with
    | int _ t =>
      exact tail_any hl.typeIs slot_list_getitem.lookup (wpAny_getItem_list hl h0 h1 (by simpa using hv) ⟨_, σ₂, Φ₂, st.trans st₂, rv, q₃⟩) (subscripted_eq hs)
end
section
variable {X : Cx} {n : Nat} {sc : Scope} {names : List Str}

theorem call_blt1 {f : Str} {fv : Value} {x : Expr} {e : E} {p pos : Pos} {env : Env} {A : Around} {s : Shared} {Φ : Fz} {ρ : List MV} {σ : Sg} {P : D → Sg → Prop} {K : Value → Shared → Prop}
    (G : Gnd X) (hv : (f, fv) ∈ bNames) (hx : SE X n sc names x e) (hk : sc.names.lookup f = some .globalImplicit) (hs : notStar x = true)
    (he : env.scope = sc) (eo : EnvOk env) (hroom : Room n A) (ok : Ok X.g σ Φ s.heap) (F : Frame X.g env names ρ σ Φ s.heap) (h : mEval X n e ρ σ P)
    (hc : ∀ v s₁ d σ₁ Φ₁, Step X.g s s₁ Φ Φ₁ σ σ₁ → Rd Φ₁ v d → P d σ₁ → wpAny (model X.prog X.w) A (call fv [v]) K No s₁) :
    wpAny (model X.prog X.w) A (eval (.Call (.Name f p) [x] [] pos) env) K No s := by
  refine call_blt (Qs := fun ds σ => ∃ d, ds = [d] ∧ P d σ) G hv (SEs_cons hx SEs_nil hs) hk (by simp [hs]) he eo hroom ok F ?_ ?_
  · simp only [mEvals, List.cons.injEq, and_true, exists_eq_left']; exact h
  · rintro vs s₁ _ σ₁ Φ₁ st r ⟨d, rfl, q⟩
    cases r with
    | cons r1 r2 => cases r2; exact hc _ s₁ d σ₁ Φ₁ st r1 q

theorem made_list {s s₁ s₂ : Shared} {σ σ₁ : Sg} {Φ Φ₁ : Fz} {a : Addr} {vs : Array Value} {ds : List D} {Q : List D → Sg → Prop} (st : Step X.g s s₁ Φ Φ₁ σ σ₁) (st₂ : Step X.g s₁ s₂ Φ₁ Φ₁ σ₁ σ₁)
    (hn : s₁.heap.get? a = none) (hl : s₂.heap.PlainList a vs) (r : RdAll Φ₁ vs.toList ds) (q : Q ds σ₁) : Evl X s Φ σ Q (.ref a) s₂ :=
  ⟨a, vs, ds, σ₁, Φ₁, rfl, st.trans st₂, st.live _ hn, hl, st.ok.freshS hn, st.ok.freshF hn, r, q⟩

theorem SL_list {x : Expr} {e : E} {p pos : Pos} (G : Gnd X) (hx : SE X n sc names x e) (hk : sc.names.lookup ("list" : Str) = some .globalImplicit) (hs : notStar x = true) :
    SL X n sc names (.Call (.Name "list" p) [x] [] pos) (.ofSeq (.seq e)) := by
  intro env A s Φ ρ σ Q he eo hroom ok F h
  refine call_blt1 G (f := "list") (fv := .type "list") (by simp [bNames]) hx hk hs he eo hroom ok F h ?_
  intro v s₁ d σ₁ Φ₁ st r q
  obtain ⟨rows, hq, q⟩ := seqT_of q
  cases hq with
  | tup ds =>
    simp only [List.length_map, List.map_map] at q
    have e1 : ((fun r : List D => r.headD .none) ∘ fun d => [d]) = id := rfl
    rw [e1, List.map_id] at q
    cases r with
    | tup ho hc hd ra =>
      have hl := ra.length
      refine call_list_seq _ (.inr rfl) (st.ok.frz _ _ ho).1 hc hd (fun h' c' k hg => ?_) (by simp only [Array.length_toList] at hl; unfold sizeLine; omega)
      exact made_list st (Step.keeps (tk := s₁.toks) st.ok k) (size_none _) ⟨_, hg⟩ ra q.2
  | one ds =>
    simp only [List.length_map, List.map_map] at q
    have e1 : ((fun r : List D => r.headD .none) ∘ fun d => [d]) = id := rfl
    rw [e1, List.map_id] at q
    cases r with
    | lst ho hc hd _ ra =>
      have hl := ra.length
      refine call_list_seq _ (.inl rfl) (st.ok.frz _ _ ho).1 hc hd (fun h' c' k hg => ?_) (by simp only [Array.length_toList] at hl; unfold sizeLine; omega)
      exact made_list st (Step.keeps (tk := s₁.toks) st.ok k) (size_none _) ⟨_, hg⟩ ra q.2
  | many rows h1 => exact absurd rfl h1

theorem range_obj {x : Expr} {e : E} {p pos : Pos} {env : Env} {A : Around} {s : Shared} {Φ : Fz} {ρ : List MV} {σ : Sg} {P : D → Sg → Prop} {K : Value → Shared → Prop}
    (G : Gnd X) (hx : SE X n sc names x e) (hk : sc.names.lookup ("range" : Str) = some .globalImplicit) (hs : notStar x = true)
    (he : env.scope = sc) (eo : EnvOk env) (hroom : Room n A) (ok : Ok X.g σ Φ s.heap) (F : Frame X.g env names ρ σ Φ s.heap) (h : mEval X n e ρ σ P) (hP : ∀ d σ, P d σ → ∃ i, d = .int i)
    (hc : ∀ r i t s₁ s₂ σ₁ Φ₁, Step X.g s s₁ Φ Φ₁ σ σ₁ → Step X.g s₁ s₂ Φ₁ Φ₁ σ₁ σ₁ → s₁.heap.get? r = none → P (.int i) σ₁ → (∃ u w, IsRange s₂.heap r 0 i 1 u t w) → K (.ref r) s₂) :
    wpAny (model X.prog X.w) A (eval (.Call (.Name "range" p) [x] [] pos) env) K No s := by
  refine call_blt1 G (f := "range") (fv := .type "range") (by simp [bNames]) hx hk hs he eo hroom ok F h ?_
  intro v s₁ d σ₁ Φ₁ st r q
  obtain ⟨i, rfl⟩ := hP _ _ q
  cases r with
  | int _ t =>
    refine call_range_1 ?_
    exact hc _ i t s₁ _ σ₁ Φ₁ st (Step.keeps st.ok fun xx xx e => Heap.get?_push_of_some _ e) (size_none _) q ⟨_, _, IsRange.new ..⟩

theorem RdAll.of_get {Φ : Fz} : ∀ {vs : List Value} {ds : List D}, vs.length = ds.length → (∀ (j : Nat) (v : Value), vs[j]? = some v → ∃ d, ds[j]? = some d ∧ Rd Φ v d) → RdAll Φ vs ds
  | [], [], _, _ => .nil
  | [], _ :: _, h, _ => by simp at h
  | _ :: _, [], h, _ => by simp at h
  | v :: vs, d :: ds, h, k => by
    obtain ⟨d', hd, r⟩ := k 0 v rfl
    simp at hd; subst hd
    exact .cons r (RdAll.of_get (by simpa using h) fun j u hj => k (j + 1) u (by simpa using hj))

theorem SL_listRange {x : Expr} {e : E} {p p' pos pos' : Pos} (G : Gnd X) (hx : SE X n sc names x e) (hk : sc.names.lookup ("list" : Str) = some .globalImplicit) (hk' : sc.names.lookup ("range" : Str) = some .globalImplicit) (hs : notStar x = true) :
    SL X n sc names (.Call (.Name "list" p) [.Call (.Name "range" p') [x] [] pos'] [] pos) (.ofSeq (.range e)) := by
  intro env A s Φ ρ σ Q he eo hroom ok F h
  refine Call_Name rfl ?_
  refine name_blt G ok eo (by rw [Env.kindOf_sc he]; exact hk) (v := .type "list") (by simp [bNames]) (by decide) ?_
  refine PyProof.Rows.callWith_type1 ?_ rfl rfl
  show wpAny _ A (spliced ((false, eval (.Call (.Name "range" p') [x] [] pos') env) :: [])) _ _ s
  refine Calls.spliced_cons (range_obj G hx hk' hs he eo hroom ok F h (fun d σ q => ?_) ?_)
  · obtain ⟨i, e, _⟩ := D.int_of q; exact ⟨i, e⟩
  intro r i t s₁ s₂ σ₁ Φ₁ st st₂ hn q hr
  obtain ⟨u, w, hr⟩ := hr
  refine Calls.spliced_nil ?_
  replace q : 1 = 1 ∧ -(2 ^ 62) ≤ i ∧ i < 2 ^ 62 ∧ _ := q
  simp only [List.length_map, List.length_range, List.map_map] at q
  have hsz : Builtin.Range.rangeSize 0 i 1 = (i.toNat : Int) := by rw [rangeSize_one]; split <;> omega
  refine call_list_range hroom.1 hr (small_one (by decide) (by decide) q.2.1 q.2.2.1) hsz (by omega) ?_
  rintro h' tk acc' c' k hg ⟨hsize, hitems⟩
  refine made_list (st.trans st₂) (Step.keeps (tk := tk) st₂.ok k) (size_none _) ⟨_, hg⟩ ?_ q.2.2.2.2
  have hh : ((fun r : List D => r.headD .none) ∘ fun (j : Nat) => [D.int (j : Int)]) = fun (j : Nat) => D.int (j : Int) := rfl
  rw [hh]
  refine RdAll.of_get (by simp [hsize]) fun j v hv => ?_
  have hj : j < i.toNat := by
    rcases Nat.lt_or_ge j acc'.toList.length with h | h
    · simpa [hsize] using h
    · rw [List.getElem?_eq_none h] at hv; cases hv
  obtain ⟨t, rfl⟩ := hitems j v (by simpa using hv)
  refine ⟨.int j, by simp [hj], ?_⟩
  have : (0 + (j : Int) * 1) = j := by omega
  rw [this]
  exact .int _ _

theorem foldl_replicate (v : Value) : ∀ (k : Nat) (acc : Array Value), List.foldl (fun x1 x2 => x1 ++ x2) acc (List.replicate k #[v]) = acc ++ (List.replicate k v).toArray
  | 0, acc => by simp
  | k + 1, acc => by
    rw [List.replicate_succ, List.foldl_cons, foldl_replicate v k]
    apply Array.toList_inj.mp
    simp [List.replicate_succ]

theorem mul_one {s : Shared} {A : Around} {l : Addr} {v : Value} {k : Nat} {x : Int} {u : Tok} {Q : Value → Shared → Prop} {prog : Program} {w : World} {E : Value → Shared → Prop}
    (hl : s.heap.get? l = some { cls := .type "list", dict := none, data := .seq #[v] k, slots := #[] }) (hlo : -(2 ^ 63 : Int) ≤ x) (hhi : x < 2 ^ 63) (hsz : x.toNat ≤ 2 ^ 20)
    (h : Q (.ref s.heap.objs.size) { s with heap := s.heap.push { cls := .type "list", data := .seq (List.replicate x.toNat v).toArray } }) :
    wpAny (model prog w) A (binaryOp .Mult (.ref l) (.int x u)) Q E s := by
  refine wpAny_binaryOp_repeat_ref (T := "list") (U := "int") (by decide) ⟨_, hl, rfl⟩ (fun s' => typeIs_int s' x u) noFill_list_mul F.fills_int_mul F.slot_int_rmul repeat_list F.slot_int_index.lookup
    (call_meets F.slot_int_rmul (typeIs_int s x u) F.entry_int_rmul (F.args_int_rmul_2 _ _) (int___rmul___int_list x u l #[v] k)
      ⟨hl, rfl, ⟨_, hl, rfl⟩, call_meets F.slot_list_mul ⟨_, hl, rfl⟩ F.entry_list_mul (F.args_list_mul_2 _ _)
        (AutoListH.list___mul___list_int_3 l #[v] k x u (by simp [Builtin.List.listFitsIndex]; omega) (by simp; omega) (by simp [Builtin.List.listTooLong, sizeLine]; omega))
        ⟨hl, ?_⟩⟩)
  have e : List.foldl (fun x1 x2 => x1 ++ x2) (#[] : Array Value) (List.replicate (if (#[v] : Array Value).isEmpty = true then 0 else x.toNat) #[v]) = (List.replicate x.toNat v).toArray := by
    rw [if_neg (by simp), foldl_replicate]; simp
  rw [e]
  exact h

theorem RdAll.replicate {Φ : Fz} {v : Value} {d : D} (h : Rd Φ v d) : ∀ k : Nat, RdAll Φ (List.replicate k v) (List.replicate k d)
  | 0 => .nil
  | k + 1 => .cons h (RdAll.replicate h k)

set_option tactic.hygienic true in
theorem SL_rep {x y : Expr} {e m : E} {p pos : Pos} (hx : SE X n sc names x e) (hy : SE X n sc names y m) (hs : notStar x = true) : SL X n sc names (.BinOp (.List [x] p) .Mult y pos) (.rep e m) := by
  intro env A s Φ ρ σ Q he eo hroom ok F h
  refine wpAny_BinOp (wpAny_List ?_)
  have h1 : mEvals X n [e] ρ σ (fun ds σ => ∃ d, ds = [d] ∧ mEval X n m ρ σ fun k σ => k.onInt fun i => 0 ≤ i ∧ i ≤ 2 ^ 20 ∧ Q (List.replicate i.toNat d) σ) := by
    simp only [mEvals, List.cons.injEq, and_true, exists_eq_left']; exact h
  refine wpAny_mono (SEs_cons hx SEs_nil hs env A s Φ ρ σ _ p he eo hroom ok F h1) ?_ fun xx xx h => h.elim
  rintro vs s₁ ⟨_, σ₁, Φ₁, st, r, d, rfl, q⟩
  cases r with
  | cons r1 r2 =>
    cases r2
    rename_i v
    refine ⟨by simp [sizeLine], ?_⟩
    have st1 := st.trans (push_step st.ok { cls := .type "list", data := .seq [v].toArray })
    refine wpAny_mono (hy env A _ Φ₁ ρ σ₁ _ he eo hroom st1.ok (F.step st1) q) ?_ fun xx xx h => h.elim
    rintro w s₂ ⟨_, σ₂, Φ₂, st₂, r₂, q₂⟩
    obtain ⟨i, rfl, q₂⟩ := D.int_of q₂
    cases r₂ with
    | int _ t =>
      have hl : s₂.heap.get? s₁.heap.objs.size = some { cls := .type "list", dict := none, data := .seq #[v] 0, slots := #[] } := st₂.keep _ _ (Heap.get?_push_size _ rfl) (st.ok.freshS (size_none _))
      refine mul_one hl (by omega) (by omega) (by omega) ?_
      have hn := size_none s₂.heap
      refine made_list (st1.trans st₂) (push_step st₂.ok _) hn ⟨_, Heap.get?_push_size _ rfl⟩ ?_ q₂.2.2
      simpa using RdAll.replicate (r1.mono st₂.mono) i.toNat

theorem cat_lists {s : Shared} {A : Around} {l b : Addr} {vs ws : Array Value} {Q : Value → Shared → Prop} {prog : Program} {w : World} {E : Value → Shared → Prop} (hl : s.heap.IsList l vs) (hb : s.heap.IsList b ws)
    (h : Q (.ref s.heap.objs.size) { s with heap := s.heap.push { cls := .type "list", data := .seq (vs ++ ws) } }) (hsz : vs.size + ws.size ≤ sizeLine) :
    wpAny (model prog w) A (binaryOp .Add (.ref l) (.ref b)) Q E s := by
  obtain ⟨⟨cls, dd, data, sl⟩, ho, hc, n, hd⟩ := id hl
  obtain ⟨⟨cls2, dd2, data2, sl2⟩, ho2, hc2, n2, hd2⟩ := id hb
  simp only at hc hd hc2 hd2
  subst hc hd hc2 hd2
  exact concat_meets ⟨_, ho, rfl⟩ ⟨_, ho2, rfl⟩ noFill_list_add seq_list_add PySem.F.slot_list_add PySem.F.entry_list_add (PySem.F.args_list_add_2 _ _) (list_addW l b vs ws n n2 dd dd2 sl sl2 hsz) ⟨ho, ho2, h⟩

theorem SL_cat {x y : Expr} {a b : E} {pos : Pos} (hx : SE X n sc names x a) (hy : SE X n sc names y b) : SL X n sc names (.BinOp x .Add y pos) (.cat a b) := by
  intro env A s Φ ρ σ Q he eo hroom ok F h
  refine wpAny_BinOp (wpAny_mono (hx env A s Φ ρ σ _ he eo hroom ok F h) ?_ fun xx xx h => h.elim)
  rintro v s₁ ⟨d, σ₁, Φ₁, st, r, q⟩
  refine wpAny_mono (hy env A s₁ Φ₁ ρ σ₁ _ he eo hroom st.ok (F.step st) q) ?_ fun xx xx h => h.elim
  rintro w s₂ ⟨_, σ₂, Φ₂, st₂, r₂, q₂⟩
  obtain ⟨ds, rfl, q₃⟩ := D.lst_of q₂
  clear q₂
  obtain ⟨es, rfl, q₂⟩ := D.lst_of q₃
  have r' := r.mono st₂.mono
  obtain ⟨l, rfl⟩ := r'.lst_ref
  obtain ⟨l', rfl⟩ := r₂.lst_ref
  obtain ⟨vs, hl, ra, _⟩ := r'.isList st₂.ok
  obtain ⟨ws, hl', rb, _⟩ := r₂.isList st₂.ok
  have e1 := ra.length
  have e2 := rb.length
  simp only [Array.length_toList] at e1 e2
  have hlen := q₂.1
  simp only [List.length_append] at hlen
  refine cat_lists hl hl' ?_ (by unfold sizeLine; omega)
  refine made_list (st.trans st₂) (push_step st₂.ok _) (size_none _) ⟨_, Heap.get?_push_size _ rfl⟩ ?_ q₂.2
  simpa using ra.append rb

theorem SL_upto {x y : Expr} {a h : E} {p pos : Pos} (hx : SE X n sc names x a) (hy : SE X n sc names y h) : SL X n sc names (.Subscript x (.Slice none (some y) none p) pos) (.upto a h) := by
  intro env A s Φ ρ σ Q he eo hroom ok F h
  refine Subscript_ (wpAny_mono (hx env A s Φ ρ σ _ he eo hroom ok F h) ?_ fun xx xx h => h.elim)
  rintro v s₁ ⟨d, σ₁, Φ₁, st, r, q⟩
  refine wpAny_Slice ?_
  rw [evalPart_none, evalPart_some]
  refine wpAny_pure ?_
  refine wpAny_mono (hy env A s₁ Φ₁ ρ σ₁ _ he eo hroom st.ok (F.step st) q) ?_ fun xx xx h => h.elim
  rintro w s₂ ⟨_, σ₂, Φ₂, st₂, r₂, q₂⟩
  obtain ⟨ds, rfl, q₃⟩ := D.lst_of q₂
  clear q₂
  obtain ⟨k, rfl, q₂⟩ := D.int_of q₃
  refine wpAny_pure ?_
  have r' := r.mono st₂.mono
  obtain ⟨l, rfl⟩ := r'.lst_ref
  obtain ⟨vs, hl, ra, _⟩ := r'.isList st₂.ok
  cases r₂ with
  | int _ t =>
    have e1 := ra.length
    simp only [Array.length_toList] at e1
    have st₃ := push_step st₂.ok { cls := .type "slice", data := .fields #[.none, .int k t, .none] }
    have hk : k = (k.toNat : Int) := by omega
    refine tail_any (Heap.IsList.typeIs (s := { s₂ with heap := s₂.heap.push { cls := .type "slice", data := .fields #[.none, .int k t, .none] } }) (hl.push _)) list_getitem_lookup
      (wpAny_getItem_list_slice (hl.push _) (Heap.IsSliceOf.new ..) .none (.int k t) .none (by simp) ?_ (by unfold sizeLine; omega)) rfl
    refine made_list ((st.trans st₂).trans st₃) (push_step st₃.ok _) (size_none _) ⟨_, Heap.get?_push_size _ rfl⟩ ?_ q₂.2.2
    have ek : slicePick vs none (some k) none = (vs.toList.take k.toNat).toArray := by rw [← slicePick_upto', ← hk]
    rw [ek]
    simpa using ra.take k.toNat

theorem SL_from {x y : Expr} {a h : E} {p pos : Pos} (hx : SE X n sc names x a) (hy : SE X n sc names y h) : SL X n sc names (.Subscript x (.Slice (some y) none none p) pos) (.from_ a h) := by
  intro env A s Φ ρ σ Q he eo hroom ok F h
  refine Subscript_ (wpAny_mono (hx env A s Φ ρ σ _ he eo hroom ok F h) ?_ fun xx xx h => h.elim)
  rintro v s₁ ⟨d, σ₁, Φ₁, st, r, q⟩
  refine wpAny_Slice ?_
  rw [evalPart_none, evalPart_some]
  refine wpAny_mono (hy env A s₁ Φ₁ ρ σ₁ _ he eo hroom st.ok (F.step st) q) ?_ fun xx xx h => h.elim
  rintro w s₂ ⟨_, σ₂, Φ₂, st₂, r₂, q₂⟩
  obtain ⟨ds, rfl, q₃⟩ := D.lst_of q₂
  clear q₂
  obtain ⟨k, rfl, q₂⟩ := D.int_of q₃
  refine wpAny_pure (wpAny_pure ?_)
  have r' := r.mono st₂.mono
  obtain ⟨l, rfl⟩ := r'.lst_ref
  obtain ⟨vs, hl, ra, _⟩ := r'.isList st₂.ok
  cases r₂ with
  | int _ t =>
    have e1 := ra.length
    simp only [Array.length_toList] at e1
    have st₃ := push_step st₂.ok { cls := .type "slice", data := .fields #[.int k t, .none, .none] }
    have hk : k = (k.toNat : Int) := by omega
    refine tail_any (Heap.IsList.typeIs (s := { s₂ with heap := s₂.heap.push { cls := .type "slice", data := .fields #[.int k t, .none, .none] } }) (hl.push _)) list_getitem_lookup
      (wpAny_getItem_list_slice (hl.push _) (Heap.IsSliceOf.new ..) (.int k t) .none .none (by simp) ?_ (by unfold sizeLine; omega)) rfl
    refine made_list ((st.trans st₂).trans st₃) (push_step st₃.ok _) (size_none _) ⟨_, Heap.get?_push_size _ rfl⟩ ?_ q₂.2.2
    have ek : slicePick vs (some k) none none = (vs.toList.drop k.toNat).toArray := by rw [← slicePick_from', ← hk]
    rw [ek]
    simpa using ra.drop k.toNat
end
theorem Ok.sameBut {g : Heap} {σ : Sg} {Φ : Fz} {h h' : Heap} {a : Addr} (ok : Ok g σ Φ h) (hs : Heap.SameBut a h h') (h1 : g.get? a = none) (h2 : Φ a = none) (h3 : σ a = none) : Ok g σ Φ h' := by
  have k : ∀ b o, b ≠ a → h.get? b = some o → h'.get? b = some o := fun b o hb e => (hs.2 b hb).trans e
  refine ⟨fun b o e => ⟨k b o (fun q => ?_) (ok.base b o e).1, (ok.base b o e).2⟩, fun b o e => ⟨k b o (fun q => ?_) (ok.frz b o e).1, (ok.frz b o e).2⟩, fun b t e => (ok.trk b t e).mono (Fz.le.refl _) fun o ho => k b o (fun q => ?_) ho⟩
  · subst q; rw [h1] at e; cases e
  · subst q; rw [h2] at e; cases e
  · subst q; rw [h3] at e; cases e

theorem names_inj {names : List Str} (nd : names.Nodup) {i j : Nat} {x : Str} (hi : names[i]? = some x) (hj : names[j]? = some x) : i = j := by
  obtain ⟨h1, e1⟩ := List.getElem?_eq_some_iff.mp hi
  obtain ⟨h2, e2⟩ := List.getElem?_eq_some_iff.mp hj
  have pw := List.pairwise_iff_getElem.mp nd
  rcases Nat.lt_trichotomy i j with h | h | h
  · exact absurd (e1.trans e2.symm) (pw i j h1 h2 h)
  · exact h
  · exact absurd (e2.trans e1.symm) (pw j i h2 h1 h)

theorem getD_set_ne {ρ : List MV} {i j : Nat} {mv : MV} (h : i ≠ j) : (ρ.set i mv).getD j .unb = ρ.getD j .unb := by
  simp [List.getD, h]
theorem getD_set_self {ρ : List MV} {i : Nat} {mv : MV} (h : i < ρ.length) : (ρ.set i mv).getD i .unb = mv := by
  simp [List.getD, h]

noncomputable def Fresh (g : Heap) (env : Env) (σ : Sg) (Φ : Fz) (μ : Nat → Option Addr) (i : Nat) (a : Addr) : Prop :=
  σ a = none ∧ Φ a = none ∧ g.get? a = none ∧ a ≠ env.locals ∧ (∀ n, (n, a) ∉ env.cells) ∧ ∀ j, j ≠ i → μ j ≠ some a

theorem FrameX.put {g : Heap} {env : Env} {names : List Str} {ρ : List MV} {σ : Sg} {Φ : Fz} {h h' : Heap} {m cm : Str → Option Value} {μ : Nat → Option Addr} (F : FrameX g env names ρ σ Φ h m cm μ)
    {i : Nat} {x : Str} {v : Value} {mv : MV} {μi : Option Addr} {m' cm' : Str → Option Value} {c : Addr} (hi : names[i]? = some x) (hown : c = env.locals ∨ ∃ n, (n, c) ∈ env.cells)
    (hs : Heap.SameBut c h h') (hns : h'.Ns env.locals m') (hcell : ∀ n c, env.cells.lookup n = some c → h'.IsCell c (cm' n)) (hlive : ∃ o, h'.get? c = some o)
    (hx : look env m' cm' x = some v) (hy : ∀ y, y ≠ x → look env m' cm' y = look env m cm y)
    (hv : VRel Φ h' (some v) μi mv) (hμ : ∀ a, μi = some a → Fresh g env σ Φ μ i a ∧ ∃ o, h'.get? a = some o) :
    FrameX g env names (ρ.set i mv) σ Φ h' m' cm' (fun j => if j = i then μi else μ j) := by
  have hlt : i < ρ.length := by
    rw [F.len]
    exact (List.getElem?_eq_some_iff.mp hi).1
  have kp : ∀ b o, b ≠ c → h.get? b = some o → h'.get? b = some o := fun b o hb e => (hs.2 b hb).trans e
  have offc' : ∀ j a, μ j = some a → a ≠ c := fun j a e q => by
    subst q
    rcases hown with q | ⟨n, q⟩
    · exact (F.offm j _ e).1 q
    · exact (F.offm j _ e).2 n q
  exact {
    nd := F.nd
    len := by rw [List.length_set]; exact F.len
    ns := hns
    cell := hcell
    cellsIn := fun n b hb => by
      obtain ⟨o, ho⟩ := F.cellsIn n b hb
      by_cases q : b = c
      · subst q; exact hlive
      · exact ⟨o, kp b o q ho⟩
    hasCell := F.hasCell
    apart := F.apart
    offc := F.offc
    priv := fun a ha => by
      rcases ha with ha | ha | ⟨j, ha⟩
      · exact F.priv a (.inl ha)
      · exact F.priv a (.inr (.inl ha))
      · by_cases q : j = i
        · simp only [if_pos q] at ha
          obtain ⟨⟨h1, h2, h3, _⟩, _⟩ := hμ a ha
          exact ⟨h1, h2, h3⟩
        · simp only [if_neg q] at ha
          exact F.priv a (.inr (.inr ⟨j, ha⟩))
    vars := fun j y hj hacc => by
      by_cases q : j = i
      · subst q
        have e : y = x := by rw [hi] at hj; cases hj; rfl
        subst e
        simp only [if_true, hx, getD_set_self hlt]
        exact hv
      · have hne : y ≠ x := fun e => q (names_inj F.nd (e ▸ hj) hi)
        simp only [hy y hne, if_neg q, getD_set_ne (Ne.symm q)]
        exact (F.vars j y hj hacc).mono (Fz.le.refl _) fun a o e ho => kp a o (offc' j a e) ho
    inj := fun j k a ej ek => by
      by_cases qj : j = i <;> by_cases qk : k = i
      · rw [qj, qk]
      · simp only [if_pos qj] at ej
        simp only [if_neg qk] at ek
        exact absurd ek ((hμ a ej).1.2.2.2.2.2 k qk)
      · simp only [if_neg qj] at ej
        simp only [if_pos qk] at ek
        exact absurd ej ((hμ a ek).1.2.2.2.2.2 j qj)
      · simp only [if_neg qj] at ej
        simp only [if_neg qk] at ek
        exact F.inj j k a ej ek
    offm := fun j a e => by
      by_cases q : j = i
      · simp only [if_pos q] at e
        obtain ⟨⟨_, _, _, h4, h5, _⟩, _⟩ := hμ a e
        exact ⟨h4, h5⟩
      · simp only [if_neg q] at e
        exact F.offm j a e
    live := fun j a e => by
      by_cases q : j = i
      · simp only [if_pos q] at e
        exact (hμ a e).2
      · simp only [if_neg q] at e
        obtain ⟨o, ho⟩ := F.live j a e
        exact ⟨o, kp a o (offc' j a e) ho⟩ }

structure Inv (X : Cx) (env : Env) (names : List Str) (B Φ₀ : Fz) (ρ : List MV) (σ : Sg) (Φ : Fz) (h : Heap) : Prop where
  ok : Ok X.g σ Φ h
  mono0 : Fz.le Φ₀ Φ
  prot : ∀ b o, B b = some o → h.get? b = some o ∧ σ b = none
  priv : ∀ b, B b ≠ none → Φ b ≠ none → Φ₀ b ≠ none
  fr : ∃ m cm μ, FrameX X.g env names ρ σ Φ h m cm μ ∧ ∀ a, Own env μ a → B a = none

theorem Inv.frame {X : Cx} {env : Env} {names : List Str} {B Φ₀ : Fz} {ρ : List MV} {σ : Sg} {Φ : Fz} {h : Heap} (I : Inv X env names B Φ₀ ρ σ Φ h) : Frame X.g env names ρ σ Φ h :=
  let ⟨m, cm, μ, F, _⟩ := I.fr; ⟨m, cm, μ, F⟩

theorem Inv.step {X : Cx} {env : Env} {names : List Str} {B Φ₀ : Fz} {ρ : List MV} {σ σ' : Sg} {Φ Φ' : Fz} {s s' : Shared} (I : Inv X env names B Φ₀ ρ σ Φ s.heap) (x : Step X.g s s' Φ Φ' σ σ') :
    Inv X env names B Φ₀ ρ σ' Φ' s'.heap := by
  obtain ⟨m, cm, μ, F, hB⟩ := I.fr
  refine ⟨x.ok, I.mono0.trans x.mono, fun b o e => ?_, fun b hb hf => ?_, m, cm, μ, F.step x, hB⟩
  · obtain ⟨h1, h2⟩ := I.prot b o e
    exact ⟨x.keep b o h1 h2, x.outS h1 h2⟩
  · cases e : B b with
    | none => exact absurd e hb
    | some o =>
      obtain ⟨h1, h2⟩ := I.prot b o e
      by_cases hf' : Φ b = none
      · exact absurd (x.outF h1 h2 hf') hf
      · exact I.priv b hb hf'

section
variable {X : Cx} {n : Nat} {sc : Scope} {names : List Str} {env : Env} {B Φ₀ : Fz} {ρ : List MV} {σ : Sg} {Φ : Fz} {s : Shared} {A : Around}

theorem look_put {m cm : Str → Option Value} {x : Str} {v : Value} (hk : env.kindOf x = some .local) : look env (fun y => if y = x then some v else m y) cm x = some v := by
  simp [look, hk]
theorem look_put_ne {m cm : Str → Option Value} {x y : Str} {v : Value} (h : y ≠ x) : look env (fun z => if z = x then some v else m z) cm y = look env m cm y := by
  simp [look, h]
theorem look_putC {m cm : Str → Option Value} {x : Str} {v : Value} (hk : env.kindOf x = some .cell) : look env m (fun y => if y = x then some v else cm y) x = some v := by
  simp [look, hk]
theorem look_putC_ne {m cm : Str → Option Value} {x y : Str} {v : Value} (h : y ≠ x) : look env m (fun z => if z = x then some v else cm z) y = look env m cm y := by
  simp [look, h]

theorem Inv.store (I : Inv X env names B Φ₀ ρ σ Φ s.heap) (eo : EnvOk env) {i : Nat} {x : Str} {v : Value} {mv : MV} {K : Unit → Shared → Prop} (hi : names[i]? = some x)
    (hk : env.kindOf x = some .local ∨ env.kindOf x = some .cell) {m cm : Str → Option Value} {μ : Nat → Option Addr} (F : FrameX X.g env names ρ σ Φ s.heap m cm μ) (hB : ∀ a, Own env μ a → B a = none)
    {μi : Option Addr} (hv1 : ∀ h', (∀ b o, (b ≠ env.locals ∧ ∀ n, (n, b) ∉ env.cells) → s.heap.get? b = some o → h'.get? b = some o) → VRel Φ h' (some v) μi mv)
    (hv2 : ∀ a, μi = some a → Fresh X.g env σ Φ μ i a ∧ B a = none ∧ ∃ o, s.heap.get? a = some o)
    (h : ∀ s', (∃ h' tk, s' = { s with heap := h', toks := tk }) → Inv X env names B Φ₀ (ρ.set i mv) σ Φ s'.heap → K () s') : wpAny (model X.prog X.w) A (storeName env x v) K No s := by
  have fin : ∀ c h' tk m' cm', (c = env.locals ∨ ∃ n, (n, c) ∈ env.cells) → Heap.SameBut c s.heap h' → h'.Ns env.locals m' → (∀ n c, env.cells.lookup n = some c → h'.IsCell c (cm' n)) → (∃ o, h'.get? c = some o) →
      look env m' cm' x = some v → (∀ y, y ≠ x → look env m' cm' y = look env m cm y) → K () { s with heap := h', toks := tk } := by
    intro c h' tk m' cm' hown hs hns hcell hlive hx hy
    have hown' : Own env μ c := by
      rcases hown with q | q
      · exact .inl q
      · exact .inr (.inl q)
    have p := F.priv c hown'
    have hoff : ∀ a, μi = some a → a ≠ c := fun a e q => by
      obtain ⟨⟨_, _, _, h4, h5, _⟩, _⟩ := hv2 a e
      rcases hown with r | ⟨n, r⟩
      · exact h4 (q.trans r)
      · exact h5 n (q ▸ r)
    refine h _ ⟨h', tk, rfl⟩ ⟨I.ok.sameBut hs p.2.2 p.2.1 p.1, I.mono0, fun b o e => ?_, I.priv, m', cm', _, F.put hi hown hs hns hcell hlive hx hy (hv1 h' fun b o hb e => (hs.2 b fun q => ?_).trans e) fun a e => ⟨(hv2 a e).1, ?_⟩, ?_⟩
    · obtain ⟨h1, h2⟩ := I.prot b o e
      refine ⟨(hs.2 b fun q => ?_).trans h1, h2⟩
      rw [q, hB c hown'] at e; cases e
    · subst q
      rcases hown with r | ⟨n, r⟩
      · exact hb.1 r
      · exact hb.2 n r
    · obtain ⟨_, _, o, ho⟩ := hv2 a e
      exact ⟨o, (hs.2 a (hoff a e)).trans ho⟩
    · intro a ha
      rcases ha with ha | ha | ⟨j, ha⟩
      · exact hB a (.inl ha)
      · exact hB a (.inr (.inl ha))
      · by_cases q : j = i
        · simp only [if_pos q] at ha; exact (hv2 a ha).2.1
        · simp only [if_neg q] at ha; exact hB a (.inr (.inr ⟨j, ha⟩))
  rcases hk with hk | hk
  · refine wpAny_storeName_local hk F.ns (fun h' hn hs => ?_) (by rw [eo.kind]; rfl)
    refine fin env.locals h' _ _ cm (.inl rfl) hs hn (fun n c hc => (F.cell n c hc).sameBut hs (F.offc n c (mem_of_lookup hc))) ?_ (look_put hk) fun y hy => look_put_ne hy
    obtain ⟨o, _, _, ho, _⟩ := hn
    exact ⟨o, ho⟩
  · obtain ⟨c, hc⟩ := Option.isSome_iff_exists.mp (F.hasCell x (.inl hk))
    refine wpAny_storeName_cell eo.kind hk hc (F.cell x c hc) fun h' hc' hs => ?_
    refine fin c h' s.toks m (fun y => if y = x then some v else cm y) (.inr ⟨x, mem_of_lookup hc⟩) hs (F.ns.sameBut hs (Ne.symm (F.offc x c (mem_of_lookup hc)))) (fun n b hb => ?_) ?_ (look_putC hk) fun y hy => look_putC_ne hy
    · by_cases q : n = x
      · subst q; rw [hc] at hb; cases hb; simpa using hc'
      · rw [if_neg q]
        exact (F.cell n b hb).sameBut hs fun e => q (name_of_addr F.apart (mem_of_lookup hb) (e ▸ mem_of_lookup hc))
    · obtain ⟨o, ho, _⟩ := hc'
      exact ⟨o, ho⟩

theorem Inv.storeV (I : Inv X env names B Φ₀ ρ σ Φ s.heap) (eo : EnvOk env) {i : Nat} {x : Str} {v : Value} {d : D} {K : Unit → Shared → Prop} (hi : names[i]? = some x)
    (hk : env.kindOf x = some .local ∨ env.kindOf x = some .cell) (hv : Rd Φ v d)
    (h : ∀ s', (∃ h' tk, s' = { s with heap := h', toks := tk }) → Inv X env names B Φ₀ (ρ.set i (.val d)) σ Φ s'.heap → K () s') : wpAny (model X.prog X.w) A (storeName env x v) K No s := by
  obtain ⟨m, cm, μ, F, hB⟩ := I.fr
  exact I.store (mv := .val d) (μi := none) eo hi hk F hB (fun xx xx => ⟨rfl, v, rfl, hv⟩) (fun xx e => by cases e) h

theorem Inv.storeM (I : Inv X env names B Φ₀ ρ σ Φ s.heap) (eo : EnvOk env) {i : Nat} {x : Str} {a : Addr} {vs : Array Value} {ds : List D} {K : Unit → Shared → Prop} (hi : names[i]? = some x)
    (hk : env.kindOf x = some .local ∨ env.kindOf x = some .cell) (hl : s.heap.PlainList a vs) (hr : RdAll Φ vs.toList ds)
    {m cm : Str → Option Value} {μ : Nat → Option Addr} (F : FrameX X.g env names ρ σ Φ s.heap m cm μ) (hB : ∀ a, Own env μ a → B a = none) (hf : Fresh X.g env σ Φ μ i a) (hBa : B a = none)
    (h : ∀ s', (∃ h' tk, s' = { s with heap := h', toks := tk }) → Inv X env names B Φ₀ (ρ.set i (.mt ds)) σ Φ s'.heap → K () s') : wpAny (model X.prog X.w) A (storeName env x (.ref a)) K No s := by
  refine I.store (mv := .mt ds) (μi := some a) eo hi hk F hB (fun h' k => ⟨a, vs, rfl, rfl, hl.at fun o e => k a o ⟨hf.2.2.2.1, hf.2.2.2.2.1⟩ e, hr⟩) (fun b e => ?_) h
  cases e
  obtain ⟨k, ho⟩ := hl
  exact ⟨hf, hBa, _, ho⟩
end
theorem FrameX.upd {g : Heap} {env : Env} {names : List Str} {ρ : List MV} {σ : Sg} {Φ : Fz} {h h' : Heap} {m cm : Str → Option Value} {μ : Nat → Option Addr} (F : FrameX g env names ρ σ Φ h m cm μ)
    {i : Nat} {x : Str} {a : Addr} {vs : Array Value} {ds : List D} (hi : names[i]? = some x) (hμ : μ i = some a) (hs : Heap.SameBut a h h') (hl : h'.PlainList a vs) (hr : RdAll Φ vs.toList ds) :
    FrameX g env names (ρ.set i (.mt ds)) σ Φ h' m cm μ := by
  have hlt : i < ρ.length := by
    rw [F.len]
    exact (List.getElem?_eq_some_iff.mp hi).1
  have kp : ∀ b o, b ≠ a → h.get? b = some o → h'.get? b = some o := fun b o hb e => (hs.2 b hb).trans e
  have off := F.offm i a hμ
  exact {
    nd := F.nd
    len := by rw [List.length_set]; exact F.len
    ns := F.ns.at' fun o e => kp _ o (Ne.symm off.1) e
    cell := fun n c hc => let ⟨o, ho, hd⟩ := F.cell n c hc; ⟨o, kp c o (fun q => off.2 n (q ▸ mem_of_lookup hc)) ho, hd⟩
    cellsIn := fun n c hc => let ⟨o, ho⟩ := F.cellsIn n c hc; ⟨o, kp c o (fun q => off.2 n (q ▸ hc)) ho⟩
    hasCell := F.hasCell
    apart := F.apart
    offc := F.offc
    priv := F.priv
    vars := fun j y hj hacc => by
      by_cases q : j = i
      · subst q
        rw [getD_set_self hlt]
        have old := F.vars j y hj hacc
        cases e : ρ.getD j .unb with
        | unb => rw [e] at old; rw [show μ j = none from old] at hμ; cases hμ
        | val d => rw [e] at old; rw [old.1] at hμ; cases hμ
        | pin v d => rw [e] at old; rw [old.1] at hμ; cases hμ
        | mt es =>
          rw [e] at old
          obtain ⟨a', vs', h1, h2, _⟩ := old
          have : a' = a := by rw [hμ] at h1; cases h1; rfl
          subst this
          exact ⟨a', vs, hμ, h2, hl, hr⟩
      · rw [getD_set_ne (Ne.symm q)]
        exact (F.vars j y hj hacc).mono (Fz.le.refl _) fun b o e ho => kp b o (fun z => q (F.inj j i a (z ▸ e) hμ)) ho
    inj := F.inj
    offm := F.offm
    live := fun j b e => by
      by_cases q : b = a
      · subst q; obtain ⟨k, hk⟩ := hl; exact ⟨_, hk⟩
      · obtain ⟨o, ho⟩ := F.live j b e; exact ⟨o, kp b o q ho⟩ }

section
variable {X : Cx} {n : Nat} {sc : Scope} {names : List Str} {env : Env} {B Φ₀ : Fz} {ρ : List MV} {σ : Sg} {Φ : Fz} {s : Shared} {A : Around}

theorem Inv.upd {h h' : Heap} (I : Inv X env names B Φ₀ ρ σ Φ h) {m cm : Str → Option Value} {μ : Nat → Option Addr} (F : FrameX X.g env names ρ σ Φ h m cm μ) (hB : ∀ a, Own env μ a → B a = none)
    {i : Nat} {x : Str} {a : Addr} {vs : Array Value} {ds : List D} (hi : names[i]? = some x) (hμ : μ i = some a) (hs : Heap.SameBut a h h') (hl : h'.PlainList a vs) (hr : RdAll Φ vs.toList ds) :
    Inv X env names B Φ₀ (ρ.set i (.mt ds)) σ Φ h' := by
  have p := F.priv a (.inr (.inr ⟨i, hμ⟩))
  refine ⟨I.ok.sameBut hs p.2.2 p.2.1 p.1, I.mono0, fun b o e => ?_, I.priv, m, cm, μ, F.upd hi hμ hs hl hr, hB⟩
  obtain ⟨h1, h2⟩ := I.prot b o e
  refine ⟨(hs.2 b fun q => ?_).trans h1, h2⟩
  rw [q, hB a (.inr (.inr ⟨i, hμ⟩))] at e; cases e

theorem FrameX.own (F : FrameX X.g env names ρ σ Φ s.heap m cm μ) {i : Nat} {x : Str} {ds : List D} (hi : names[i]? = some x) (ha : acc env x) (hm : ρ.getD i .unb = .mt ds) :
    ∃ a vs, μ i = some a ∧ look env m cm x = some (.ref a) ∧ s.heap.PlainList a vs ∧ RdAll Φ vs.toList ds := by
  have := F.vars i x hi ha
  rw [hm] at this
  exact this

noncomputable def FlRel (Φ : Fz) : Flow → Fl → Prop
  | .next, .next => True
  | .ret v, .ret d => Rd Φ v d
  | _, _ => False

noncomputable def Ex (X : Cx) (env : Env) (names : List Str) (B Φ₀ : Fz) (s : Shared) (Φ : Fz) (Q : Fl → List MV → Sg → Prop) (f : Flow) (s' : Shared) : Prop :=
  ∃ fl ρ' σ' Φ', (∃ h' tk, s' = { s with heap := h', toks := tk }) ∧ Inv X env names B Φ₀ ρ' σ' Φ' s'.heap ∧ Fz.le Φ Φ' ∧ FlRel Φ' f fl ∧ Q fl ρ' σ'

noncomputable def SS (X : Cx) (n : Nat) (sc : Scope) (names : List Str) (st : Stmt) (m : S) : Prop :=
  ∀ env A s B Φ₀ ρ σ Φ Q, env.scope = sc → EnvOk env → Room n A → Inv X env names B Φ₀ ρ σ Φ s.heap → mExec X n m ρ σ Q → wpAny (model X.prog X.w) A (exec st env) (Ex X env names B Φ₀ s Φ Q) No s
noncomputable def SSs (X : Cx) (n : Nat) (sc : Scope) (names : List Str) (sts : List Stmt) (ms : List S) : Prop :=
  ∀ env A s B Φ₀ ρ σ Φ Q, env.scope = sc → EnvOk env → Room n A → Inv X env names B Φ₀ ρ σ Φ s.heap → mExecs X n ms ρ σ Q → wpAny (model X.prog X.w) A (execs sts env) (Ex X env names B Φ₀ s Φ Q) No s

theorem SSs_nil : SSs X n sc names [] [] := fun xx xx s xx xx xx xx xx xx xx xx xx I h => wpAny_execs_nil ⟨.next, _, _, _, ⟨s.heap, s.toks, rfl⟩, I, Fz.le.refl _, trivial, h⟩

theorem SSs_cons {st : Stmt} {sts : List Stmt} {m : S} {ms : List S} (h1 : SS X n sc names st m) (h2 : SSs X n sc names sts ms) : SSs X n sc names (st :: sts) (m :: ms) := by
  intro env A s B Φ₀ ρ σ Φ Q he eo hr I h
  simp only [mExecs] at h
  refine wpAny_execs_cons (wpAny_mono (h1 env A s B Φ₀ ρ σ Φ _ he eo hr I h) ?_ fun xx xx h => h.elim)
  rintro f s₁ ⟨fl, ρ₁, σ₁, Φ₁, ⟨h', tk, rfl⟩, I₁, le₁, fr, q⟩
  cases fl with
  | next =>
    cases f <;> simp only [FlRel] at fr
    refine wpAny_mono (h2 env A _ B Φ₀ ρ₁ σ₁ Φ₁ _ he eo hr I₁ q) ?_ fun xx xx h => h.elim
    rintro f s₂ ⟨fl, ρ₂, σ₂, Φ₂, ⟨h'', tk', rfl⟩, I₂, le₂, fr, q⟩
    exact ⟨fl, ρ₂, σ₂, Φ₂, ⟨h'', tk', rfl⟩, I₂, le₁.trans le₂, fr, q⟩
  | ret d =>
    cases f <;> simp only [FlRel] at fr
    exact ⟨.ret d, ρ₁, σ₁, Φ₁, ⟨h', tk, rfl⟩, I₁, le₁, fr, q⟩

theorem Inv.freeze {h : Heap} (I : Inv X env names B Φ₀ ρ σ Φ h) {i : Nat} {x : Str} {ds : List D} (hi : names[i]? = some x) (ha : acc env x) (hm : ρ.getD i .unb = .mt ds) :
    ∃ Φ', Fz.le Φ Φ' ∧ Inv X env names B Φ₀ (ρ.set i (.val (.lst ds))) σ Φ' h := by
  obtain ⟨m, cm, μ, F, hB⟩ := I.fr
  have hlt : i < ρ.length := by
    rw [F.len]
    exact (List.getElem?_eq_some_iff.mp hi).1
  have := F.vars i x hi ha
  rw [hm] at this
  obtain ⟨a, vs, hμ, hlk, ⟨k, hl⟩, hr⟩ := this
  have p := F.priv a (.inr (.inr ⟨i, hμ⟩))
  have le := Fz.le_put (Φ := Φ) (a := a) (o := { cls := .type "list", data := .seq vs k }) p.2.1
  have ok' : Ok X.g σ (Fz.put Φ a { cls := .type "list", data := .seq vs k }) h := I.ok.freeze hl p.1 p.2.1
  refine ⟨_, le, ok', I.mono0.trans le, I.prot, fun b hb hf => ?_, m, cm, fun j => if j = i then none else μ j, ?_, fun b hb => ?_⟩
  · by_cases q : b = a
    · subst q; exact absurd (hB b (.inr (.inr ⟨i, hμ⟩))) hb
    · rw [Fz.put_ne q] at hf; exact I.priv b hb hf
  · exact {
      nd := F.nd
      len := by rw [List.length_set]; exact F.len
      ns := F.ns
      cell := F.cell
      cellsIn := F.cellsIn
      hasCell := F.hasCell
      apart := F.apart
      offc := F.offc
      priv := fun b hb => by
        have hb' : Own env μ b ∧ b ≠ a := by
          rcases hb with hb | ⟨n, hb⟩ | ⟨j, hb⟩
          · exact ⟨.inl hb, fun q => (F.offm i a hμ).1 (q ▸ hb)⟩
          · exact ⟨.inr (.inl ⟨n, hb⟩), fun q => (F.offm i a hμ).2 n (q ▸ hb)⟩
          · by_cases q : j = i
            · simp only [if_pos q] at hb; cases hb
            · simp only [if_neg q] at hb
              exact ⟨.inr (.inr ⟨j, hb⟩), fun z => q (F.inj j i a (z ▸ hb) hμ)⟩
        have p := F.priv b hb'.1
        exact ⟨p.1, by rw [Fz.put_ne hb'.2]; exact p.2.1, p.2.2⟩
      vars := fun j y hj hacc => by
        by_cases q : j = i
        · subst q
          have e : y = x := by rw [hi] at hj; cases hj; rfl
          subst e
          simp only [if_true]
          rw [getD_set_self hlt]
          exact ⟨rfl, _, hlk, .lst (Fz.put_self _ _ _) rfl rfl rfl (hr.mono le)⟩
        · simp only [if_neg q]
          rw [getD_set_ne (Ne.symm q)]
          exact (F.vars j y hj hacc).mono le fun xx xx xx e => e
      inj := fun j l b ej el => by
        by_cases q : j = i
        · simp only [if_pos q] at ej; cases ej
        · by_cases q' : l = i
          · simp only [if_pos q'] at el; cases el
          · simp only [if_neg q] at ej
            simp only [if_neg q'] at el
            exact F.inj j l b ej el
      offm := fun j b e => by
        by_cases q : j = i
        · simp only [if_pos q] at e; cases e
        · simp only [if_neg q] at e; exact F.offm j b e
      live := fun j b e => by
        by_cases q : j = i
        · simp only [if_pos q] at e; cases e
        · simp only [if_neg q] at e; exact F.live j b e }
  · rcases hb with hb | hb | ⟨j, hb⟩
    · exact hB b (.inl hb)
    · exact hB b (.inr (.inl hb))
    · by_cases q : j = i
      · simp only [if_pos q] at hb; cases hb
      · simp only [if_neg q] at hb; exact hB b (.inr (.inr ⟨j, hb⟩))

theorem SSs_freeze {sts : List Stmt} {ms : List S} {i : Nat} {x : Str} (hi : names[i]? = some x) (ha : accS sc x = true) (h2 : SSs X n sc names sts ms) : SSs X n sc names sts (.freeze i :: ms) := by
  intro env A s B Φ₀ ρ σ Φ Q he eo hr I h
  obtain ⟨ds, e, h⟩ := MV.mt_of h
  obtain ⟨Φ', le, I'⟩ := I.freeze hi (acc_of he ha) e
  refine wpAny_mono (h2 env A s B Φ₀ _ σ Φ' _ he eo hr I' h) ?_ fun xx xx h => h.elim
  rintro f s₂ ⟨fl, ρ₂, σ₂, Φ₂, hs, I₂, le₂, fr, q⟩
  exact ⟨fl, ρ₂, σ₂, Φ₂, hs, I₂, le.trans le₂, fr, q⟩

noncomputable def stS (sc : Scope) (x : Str) : Bool := match sc.names.lookup x with
  | some .local => true
  | some .cell => true
  | _ => false
theorem st_of (he : env.scope = sc) {x : Str} (h : stS sc x = true) : env.kindOf x = some .local ∨ env.kindOf x = some .cell := by
  rw [Env.kindOf_sc he]
  unfold stS at h
  split at h
  · exact .inl (by assumption)
  · exact .inr (by assumption)
  · cases h

noncomputable def notComp : Expr → Bool
  | .ListComp .. => false
  | .SetComp .. => false
  | .DictComp .. => false
  | _ => true
theorem swaps_false {e : Expr} {t : Expr} {l : Nat} (h : notComp e = true) : swapsWith e (some t) l env = pure false := by
  cases e <;> first | rfl | cases h

theorem SS_asg' {i : Nat} {x : Str} {v : Expr} {e : E} {p pos : Pos} (hi : names[i]? = some x) (hk : stS sc x = true) (hv : SE X n sc names v e) (hc : ∀ env, env.scope = sc → EnvOk env → swapsWith v (some (.Name x p)) pos.line env = pure false) : SS X n sc names (.Assign [.Name x p] v pos) (.asg i e) := by
  intro env A s B Φ₀ ρ σ Φ Q he eo hr I h
  refine wpAny_Assign_Name (wpAny_mono (hv env A s Φ ρ σ _ he eo hr I.ok I.frame h) ?_ fun xx xx h => h.elim) (hc env he eo)
  rintro v s₁ ⟨d, σ₁, Φ₁, st, r, q⟩
  refine (I.step st).storeV eo hi (st_of he hk) r fun s' hs I' => ?_
  obtain ⟨h', tk, rfl⟩ := st.same
  obtain ⟨h'', tk', rfl⟩ := hs
  exact ⟨.next, _, σ₁, Φ₁, ⟨h'', tk', rfl⟩, I', st.mono, trivial, q⟩

theorem SS_asg {i : Nat} {x : Str} {v : Expr} {e : E} {p pos : Pos} (hi : names[i]? = some x) (hk : stS sc x = true) (hv : SE X n sc names v e) (hc : notComp v = true) : SS X n sc names (.Assign [.Name x p] v pos) (.asg i e) :=
  SS_asg' hi hk hv fun xx xx xx => swaps_false hc

theorem SS_asgM' {i : Nat} {x : Str} {v : Expr} {l : L} {p pos : Pos} (hi : names[i]? = some x) (hk : stS sc x = true) (hv : SL X n sc names v l) (hc : ∀ env, env.scope = sc → EnvOk env → swapsWith v (some (.Name x p)) pos.line env = pure false) : SS X n sc names (.Assign [.Name x p] v pos) (.asgM i l) := by
  intro env A s B Φ₀ ρ σ Φ Q he eo hr I h
  refine wpAny_Assign_Name (wpAny_mono (hv env A s Φ ρ σ _ he eo hr I.ok I.frame h) ?_ fun xx xx h => h.elim) (hc env he eo)
  rintro v s₁ ⟨a, vs, ds, σ₁, Φ₁, rfl, st, hn, hl, h1, h2, r, q⟩
  have I₁ := I.step st
  obtain ⟨m, cm, μ, F, hB⟩ := I.fr
  have hold : ∀ o, s.heap.get? a ≠ some o := fun o e => by rw [hn] at e; cases e
  have hBa : B a = none := by
    cases e : B a with
    | none => rfl
    | some o => exact absurd (I.prot a o e).1 (hold o)
  have hga : X.g.get? a = none := by
    cases e : X.g.get? a with
    | none => rfl
    | some o => exact absurd (I.ok.base a o e).1 (hold o)
  have hinn : ∀ b, Own env μ b → b ≠ a := fun b hb q => by
    subst q
    rcases hb with hb | ⟨n, hb⟩ | ⟨j, hb⟩
    · subst hb; obtain ⟨o, _, _, ho, _⟩ := F.ns; exact hold o ho
    · obtain ⟨o, ho⟩ := F.cellsIn n _ hb; exact hold o ho
    · obtain ⟨o, ho⟩ := F.live j _ hb; exact hold o ho
  refine I₁.storeM eo hi (st_of he hk) hl r (F.step st) hB ⟨h1, h2, hga, fun q => hinn _ (.inl rfl) q.symm, fun n q => hinn a (.inr (.inl ⟨n, q⟩)) rfl, fun j xx q => hinn a (.inr (.inr ⟨j, q⟩)) rfl⟩ hBa fun s' hs I' => ?_
  · obtain ⟨h', tk, rfl⟩ := st.same
    obtain ⟨h'', tk', rfl⟩ := hs
    exact ⟨.next, _, σ₁, Φ₁, ⟨h'', tk', rfl⟩, I', st.mono, trivial, q⟩

theorem SS_asgM {i : Nat} {x : Str} {v : Expr} {l : L} {p pos : Pos} (hi : names[i]? = some x) (hk : stS sc x = true) (hv : SL X n sc names v l) (hc : notComp v = true) : SS X n sc names (.Assign [.Name x p] v pos) (.asgM i l) :=
  SS_asgM' hi hk hv fun xx xx xx => swaps_false hc

theorem SS_frozen {st : Stmt} {i : Nat} {x : Str} {l : L} (hi : names[i]? = some x) (hk : stS sc x = true) (h : SS X n sc names st (.asgM i l)) : SS X n sc names st (.asg i (.lst l)) := by
  intro env A s B Φ₀ ρ σ Φ Q he eo hr I hq
  have hlt : i < ρ.length := by
    obtain ⟨m, cm, μ, F, _⟩ := I.fr
    rw [F.len]
    exact (List.getElem?_eq_some_iff.mp hi).1
  have key : (fun (ds : List D) (σ : Sg) => Fl.next = .next ∧ ∃ es, (ρ.set i (.mt ds)).getD i .unb = .mt es ∧ Q .next ((ρ.set i (.mt ds)).set i (.val (.lst es))) σ) = fun ds σ => Q .next (ρ.set i (.val (.lst ds))) σ := by
    funext ds σ
    rw [getD_set_self hlt]
    apply propext
    constructor
    · rintro ⟨_, es, e, q⟩
      cases e
      rw [List.set_set] at q
      exact q
    · intro q
      exact ⟨rfl, ds, rfl, by rw [List.set_set]; exact q⟩
  refine wpAny_mono (h env A s B Φ₀ ρ σ Φ (fun fl ρ' σ' => fl = .next ∧ ∃ es, ρ'.getD i .unb = .mt es ∧ Q .next (ρ'.set i (.val (.lst es))) σ') he eo hr I ?_) ?_ fun xx xx h => h.elim
  · show l X n ρ σ _
    rw [key]; exact hq
  · rintro f s₁ ⟨fl, ρ₁, σ₁, Φ₁, hs, I₁, le₁, fr, rfl, es, e, q⟩
    have ha : acc env x := by
      rcases st_of he hk with h | h
      · exact .inl h
      · exact .inr (.inl h)
    obtain ⟨Φ₂, le₂, I₂⟩ := I₁.freeze hi ha e
    refine ⟨.next, _, σ₁, Φ₂, hs, I₂, le₁.trans le₂, ?_, q⟩
    cases f <;> simp only [FlRel] at fr ⊢
end
section
variable {X : Cx} {n : Nat} {sc : Scope} {names : List Str} {env : Env} {B Φ₀ : Fz} {ρ : List MV} {σ : Sg} {Φ : Fz} {s : Shared} {A : Around}

theorem SS_ret {v : Expr} {e : E} {pos : Pos} (hv : SE X n sc names v e) : SS X n sc names (.Return (some v) pos) (.ret e) := by
  intro env A s B Φ₀ ρ σ Φ Q he eo hr I h
  refine wpAny_Return_some (wpAny_mono (hv env A s Φ ρ σ _ he eo hr I.ok I.frame h) ?_ fun xx xx h => h.elim)
  rintro v s₁ ⟨d, σ₁, Φ₁, st, r, q⟩
  exact ⟨.ret d, ρ, σ₁, Φ₁, st.same, I.step st, st.mono, r, q⟩

theorem interactive_no (eo : EnvOk env) : interactive env = false := by simp [interactive, eo.kind]

theorem SS_expr {v : Expr} {e : E} {pos : Pos} (hv : SE X n sc names v e) (hc : notComp v = true) : SS X n sc names (.Expr v pos) (.expr e) := by
  intro env A s B Φ₀ ρ σ Φ Q he eo hr I h
  refine wpAny_Expr_any (wpAny_mono (hv env A s Φ ρ σ _ he eo hr I.ok I.frame h) ?_ fun xx xx h => h.elim) (interactive_no eo) (by cases v <;> first | rfl | cases hc)
  rintro v s₁ ⟨d, σ₁, Φ₁, st, r, q⟩
  exact ⟨.next, ρ, σ₁, Φ₁, st.same, I.step st, st.mono, trivial, q⟩

theorem SS_if {c : Expr} {t f : List Stmt} {e : E} {mt mf : List S} {pos : Pos} (hc : ST X n sc names c e) (ht : SSs X n sc names t mt) (hf : SSs X n sc names f mf) : SS X n sc names (.If c t f pos) (.iff e mt mf) := by
  intro env A s B Φ₀ ρ σ Φ Q he eo hr I h
  refine wpAny_If (wpAny_mono (hc env A s Φ ρ σ _ (fun b σ => if b = true then mExecs X n mt ρ σ Q else mExecs X n mf ρ σ Q) he eo hr I.ok I.frame (fun xx xx h => D.bool_of h) h) ?_ fun xx xx h => h.elim)
  rintro b s₁ ⟨σ₁, Φ₁, st, q⟩
  have fin : ∀ f s₂, Ex X env names B Φ₀ s₁ Φ₁ Q f s₂ → Ex X env names B Φ₀ s Φ Q f s₂ := by
    rintro f s₂ ⟨fl, ρ₂, σ₂, Φ₂, ⟨h', tk, rfl⟩, I₂, le₂, fr, q⟩
    obtain ⟨h'', tk', rfl⟩ := st.same
    exact ⟨fl, ρ₂, σ₂, Φ₂, ⟨h', tk, rfl⟩, I₂, st.mono.trans le₂, fr, q⟩
  cases b with
  | true => exact wpAny_mono (ht env A s₁ B Φ₀ ρ σ₁ Φ₁ Q he eo hr (I.step st) q) fin fun xx xx h => h.elim
  | false => exact wpAny_mono (hf env A s₁ B Φ₀ ρ σ₁ Φ₁ Q he eo hr (I.step st) q) fin fun xx xx h => h.elim

noncomputable def Tgts (names : List Str) (sc : Scope) : List Expr → List Nat → Prop
  | [], [] => True
  | .Name x _ :: es, i :: is => names[i]? = some x ∧ stS sc x = true ∧ Tgts names sc es is
  | _, _ => False

theorem Tgts.len : ∀ {es : List Expr} {is : List Nat}, Tgts names sc es is → es.length = is.length
  | [], [], _ => rfl
  | [], _ :: _, h => by simp [Tgts] at h
  | e :: es, [], h => by cases e <;> simp [Tgts] at h
  | e :: es, i :: is, h => by
    cases e <;> simp only [Tgts] at h
    simp [Tgts.len h.2.2]

set_option tactic.hygienic true in
theorem assignEach_len : ∀ {es : List Expr} {is : List Nat}, Tgts names sc es is → (assignEach es env).length = is.length ∧ (assignEach es env).findIdx? (·.1) = none
  | [], [], _ => ⟨rfl, rfl⟩
  | [], _ :: _, h => by simp [Tgts] at h
  | e :: es, [], h => by cases e <;> simp [Tgts] at h
  | e :: es, i :: is, h => by
    cases e <;> simp only [Tgts] at h
    rename_i x p
    have ih := assignEach_len h.2.2
    have e1 : assignEach (.Name x p :: es) env = (false, assign (.Name x p) env) :: assignEach es env := rfl
    rw [e1]
    refine ⟨by simp [ih.1], ?_⟩
    rw [List.findIdx?_cons]
    simp [ih.2]

set_option tactic.hygienic true in
theorem assign_all (eo : EnvOk env) (he : env.scope = sc) : ∀ {es : List Expr} {is : List Nat} {vs : List Value} {ds : List D} {ρ : List MV} {s : Shared} {K : Unit → Shared → Prop}, Tgts names sc es is → ds.length = is.length → RdAll Φ vs ds →
    Inv X env names B Φ₀ ρ σ Φ s.heap → (∀ s', (∃ h' tk, s' = { s with heap := h', toks := tk }) → Inv X env names B Φ₀ (setAll ρ is ds) σ Φ s'.heap → K () s') →
    wpAny (model X.prog X.w) A (assignInOrder ((assignEach es env).map (·.2)) vs) K No s
  | [], [], vs, ds, ρ, s, K, _, hlen, r, I, h => by
    have : ds = [] := by simpa using hlen
    subst this
    cases r
    exact wpAny_pure (h s ⟨s.heap, s.toks, rfl⟩ (by simpa [setAll] using I))
  | [], _ :: _, _, _, _, _, _, ht, _, _, _, _ => by simp [Tgts] at ht
  | e :: _, [], _, _, _, _, _, ht, _, _, _, _ => by cases e <;> simp [Tgts] at ht
  | e :: es, i :: is, vs, ds, ρ, s, K, ht, hlen, r, I, h => by
    cases e <;> simp only [Tgts] at ht
    rename_i x p
    cases r with
    | nil => simp at hlen
    | cons r1 r2 =>
      show wpAny _ A (do holding _ (assign (.Name x p) env _); assignInOrder ((assignEach es env).map (·.2)) _) _ _ s
      refine wpAny_bind (wpAny_holding (wpAny_assign_Name (I.storeV eo ht.1 (st_of he ht.2.1) r1 fun s' hs I' => ?_)))
      refine assign_all eo he ht.2.2 (by simpa using hlen) r2 I' fun s'' hs' I'' => ?_
      obtain ⟨h', tk, rfl⟩ := hs
      obtain ⟨h'', tk', rfl⟩ := hs'
      exact h _ ⟨h'', tk', rfl⟩ (by simpa [setAll] using I'')

noncomputable def notTup : Expr → Bool
  | .Tuple .. => false
  | _ => true

theorem SS_unp {elts : List Expr} {is : List Nat} {v : Expr} {e : E} {k : Nat} {p pos : Pos} (ht : Tgts names sc elts is) (hv : SE X n sc names v e) (hc : notComp v = true) (hu : notTup v = true) :
    SS X n sc names (.Assign [.Tuple elts k p] v pos) (.unp is e) := by
  intro env A s B Φ₀ ρ σ Φ Q he eo hr I h
  refine Assign_Tuple (wpAny_mono (hv env A s Φ ρ σ _ he eo hr I.ok I.frame h) ?_ fun xx xx h => h.elim) (by cases v <;> first | rfl | cases hc) (by cases v <;> first | rfl | cases hu)
  rintro v s₁ ⟨_, σ₁, Φ₁, st, r, q⟩
  obtain ⟨ds, rfl, q⟩ := D.tup_of q
  cases r with
  | tup ho hcl hd ra =>
    have al := assignEach_len (env := env) ht
    have rl := ra.length
    refine wpAny_assign_Tuple hr.1 ⟨_, (st.ok.frz _ _ ho).1, hcl, _, hd⟩ (by rw [al.1, ← q.1, ← rl]; simp) al.2 fun h' hx => ?_
    have st' : Step X.g s₁ { s₁ with heap := h' } Φ₁ Φ₁ σ₁ σ₁ := Step.keeps (tk := s₁.toks) st.ok fun b o e => hx b o (Nat.ne_of_lt (Heap.lt_size e)) e
    refine assign_all eo he ht q.1 ra ((I.step st).step st') fun s' hs I' => ?_
    obtain ⟨h₂, tk₂, rfl⟩ := st.same
    obtain ⟨h₃, tk₃, rfl⟩ := hs
    exact ⟨.next, _, σ₁, Φ₁, ⟨h₃, tk₃, rfl⟩, I', st.mono, trivial, q.2⟩

theorem meth_eq {x : Str} {p apos pos : Pos} {name : Str} {args : List Expr} (hl : (apos.endLine == pos.line) = true) (hs : args.all notStar = true) (hn : args.length < 30) :
    eval (.Call (.Attribute (.Name x p) name apos) args [] pos) env = (do
      let ov ← eval (.Name x p) env
      standAt apos.atName
      let (f, first) ← holding [ov] (getMethod ov name (do return (← importBound (.Name x p) env).getD true))
      callWith pos f first (backTo pos (starEach args env)) []) := by
  have h1 : (backTo pos (starEach args env)).all (!·.1) = true := by
    have := plain_star (pos := pos) (env := env) args hs
    rw [List.any_eq_false] at this
    rw [List.all_eq_true]
    intro q hq
    have := this q hq
    simpa using this
  have h2 : methodCallForm (args.length + 0) (backTo pos (starEach args env)) (backToKw pos (keywordEach [] env)) = true := by
    unfold methodCallForm
    rw [h1]
    simp [backToKw, keywordEach]
    first | with_reducible assumption | omega
  show (do
    let ov ← eval (.Name x p) env
    standAt apos.atName
    methodCall (.Name x p) name apos pos env ov (args.length + 0) (backTo pos (starEach args env)) (backToKw pos (keywordEach [] env))) = _
  unfold methodCall
  simp only [h2, calleeOf, methodCallPos, hl, if_true, Bool.not_true, Bool.false_or, pure_bind]
  rfl

theorem expr_call_swaps {f : Expr} {args : List Expr} {kw : List Keyword} {p : Pos} {l : Nat} : swapsWith (.Call f args kw p) none l env = pure false := rfl

set_option tactic.hygienic true in
theorem SS_app {i : Nat} {x : Str} {v : Expr} {e : E} {p apos cpos pos : Pos} (hi : names[i]? = some x) (ha : accS sc x = true) (hp : plainName x = true) (hv : SE X n sc names v e) (hs : notStar v = true) (hl : (apos.endLine == cpos.line) = true) :
    SS X n sc names (.Expr (.Call (.Attribute (.Name x p) "append" apos) [v] [] cpos) pos) (.app i e) := by
  intro env A s B Φ₀ ρ σ Φ Q he eo hr I h
  obtain ⟨ds, eds, hlen, h⟩ := MV.mt_of h
  refine wpAny_Expr (MethodCall_ ?_ (meth_eq hl (by simp [hs]) (by simp))) (interactive_no eo) expr_call_swaps
  obtain ⟨m, cm, μ, F, hB⟩ := I.fr
  simp only [plainName, Bool.and_eq_true, Bool.not_eq_true'] at hp
  obtain ⟨a, vs, hμ, hlk, hpl, hrd⟩ := F.own hi (acc_of he ha) eds
  refine load_var eo F (acc_of he ha) hlk hp.1 hp.2 ?_
  obtain ⟨k, ho⟩ := id hpl
  refine Calls.getMethod_list_append ho rfl rfl ?_
  refine callWith_method1 ?_ (starEach_cons hs) rfl
  have h1 : mEvals X n [e] ρ σ (fun ds' σ => ∃ d, ds' = [d] ∧ Q .next (ρ.set i (.mt (ds ++ [d]))) σ) := by
    simp only [mEvals, List.cons.injEq, and_true, exists_eq_left']; exact h
  refine wpAny_mono (SEs_cons hv SEs_nil hs env A s Φ ρ σ _ cpos he eo hr I.ok I.frame h1) ?_ fun xx xx h => h.elim
  rintro ws s₁ ⟨_, σ₁, Φ₁, st, r, d, rfl, q⟩
  cases r with
  | cons r1 r2 =>
    cases r2
    rename_i y
    have p := F.priv a (.inr (.inr ⟨i, hμ⟩))
    have hpl₁ : s₁.heap.PlainList a vs := hpl.at fun o ho => st.keep a o ho p.1
    refine wpAny_list_append_plain hpl₁ (fun h' hl' hs' => ?_) (by have := hrd.length; simp only [Array.length_toList] at this; unfold sizeLine; (first | with_reducible exact oo9 ‹_› ‹_› | omega))
    have rr : RdAll Φ₁ (vs.push y).toList (ds ++ [d]) := by simpa using (hrd.mono st.mono).append (.one r1)
    have I' := (I.step st).upd (F.step st) hB hi hμ hs' hl' rr
    obtain ⟨h₂, tk₂, rfl⟩ := st.same
    exact ⟨.next, _, σ₁, Φ₁, ⟨h', tk₂, rfl⟩, I', st.mono, trivial, q⟩

theorem pop_plain {prog : Program} {w : World} {l : Addr} {items : Array Value} {k : Int} {t : Tok} {y : Value} {K : Value → Shared → Prop} {E : Value → Shared → Prop} (hl : s.heap.PlainList l items) (h0 : 0 ≤ k) (h1 : k < 2 ^ 62)
    (hy : items[k.toNat]? = some y) (hsz : items.size ≤ sizeLine)
    (h : ∀ h', h'.PlainList l (items.eraseIdxIfInBounds k.toNat) → Heap.SameBut l s.heap h' → K y { s with heap := h' }) : wpAny (model prog w) A (call (.builtin "list.pop") [.ref l, .int k t]) K E s := by
  obtain ⟨n, ho⟩ := hl
  have hlt : k.toNat < items.size := by
    rcases Nat.lt_or_ge k.toNat items.size with h | h
    · exact h
    · rw [Array.getElem?_eq_none h] at hy; cases hy
  refine call_meets PySem.F.slot_list_pop ⟨_, ho, rfl⟩ PySem.F.entry_list_pop (PySem.F.args_list_pop_2 _ _) (MeetsSeq.list_pop_at l items n k t k.toNat y (by simp [Builtin.List.listFitsIndex]; omega) (seqIndex_nat h0 (by omega)) hy hsz) ⟨ho, ?_⟩
  have hu := Heap.get?_update_self (Obj.mapSeq fun xs => xs.eraseIdxIfInBounds k.toNat) ho rfl
  exact h _ ⟨if (items.eraseIdxIfInBounds k.toNat).size == items.size then n else n + 1, hu⟩ (Heap.SameBut.update ..)

theorem SS_appPop {i j : Nat} {x y : Str} {v : Expr} {e : E} {p apos cpos pos p' apos' cpos' : Pos} (hi : names[i]? = some x) (ha : accS sc x = true) (hp : plainName x = true)
    (hj : names[j]? = some y) (hb : accS sc y = true) (hq : plainName y = true) (hv : SE X n sc names v e) (hs : notStar v = true) (hl : (apos.endLine == cpos.line) = true) (hl' : (apos'.endLine == cpos'.line) = true) :
    SS X n sc names (.Expr (.Call (.Attribute (.Name x p) "append" apos) [.Call (.Attribute (.Name y p') "pop" apos') [v] [] cpos'] [] cpos) pos) (.appPop i j e) := by
  intro env A s B Φ₀ ρ σ Φ Q he eo hr I h
  obtain ⟨hij, h⟩ := h
  obtain ⟨ds, e1, h⟩ := MV.mt_of h
  obtain ⟨es, e2, hlen, hlen', h⟩ := MV.mt_of h
  refine wpAny_Expr (MethodCall_ ?_ (meth_eq hl rfl (by simp))) (interactive_no eo) expr_call_swaps
  obtain ⟨m, cm, μ, F, hB⟩ := I.fr
  simp only [plainName, Bool.and_eq_true, Bool.not_eq_true'] at hp hq
  obtain ⟨a, vs, hμ, hlk, hpl, hrd⟩ := F.own hi (acc_of he ha) e1
  obtain ⟨b, us, hμ', hlk', hpl', hrd'⟩ := F.own hj (acc_of he hb) e2
  have hab : a ≠ b := fun q => hij (F.inj i j a hμ (q ▸ hμ'))
  refine load_var eo F (acc_of he ha) hlk hp.1 hp.2 ?_
  obtain ⟨k, ho⟩ := id hpl
  refine Calls.getMethod_list_append ho rfl rfl ?_
  refine callWith_method1 ?_ rfl rfl
  show wpAny _ A (spliced [(false, eval (.Call (.Attribute (.Name y p') "pop" apos') [v] [] cpos') env)]) _ _ s
  refine Calls.spliced_cons (MethodCall_ ?_ (meth_eq hl' (by simp [hs]) (by simp)))
  refine load_var eo F (acc_of he hb) hlk' hq.1 hq.2 ?_
  obtain ⟨k', ho'⟩ := id hpl'
  refine getMethod_list_of PySem.F.slot_list_pop PySem.F.type_list_pop hpl'.isList ⟨_, ho', rfl⟩ ?_
  refine callWith_method1 ?_ (starEach_cons hs) rfl
  have h1 : mEvals X n [e] ρ σ (fun ds' σ => ∃ k, ds' = [k] ∧ k.onInt fun t => ∃ d, 0 ≤ t ∧ es[t.toNat]? = some d ∧ Q .next ((ρ.set j (.mt (es.eraseIdx t.toNat))).set i (.mt (ds ++ [d]))) σ) := by
    simp only [mEvals, List.cons.injEq, and_true, exists_eq_left']; exact h
  refine wpAny_mono (SEs_cons hv SEs_nil hs env A s Φ ρ σ _ cpos' he eo hr I.ok I.frame h1) ?_ fun xx xx h => h.elim
  rintro ws s₁ ⟨_, σ₁, Φ₁, st, r, kk, rfl, q⟩
  obtain ⟨t, rfl, d, ht0, hd, q⟩ := D.int_of q
  cases r with
  | cons r1 r2 =>
    cases r2
    cases r1 with
    | int _ tk =>
      have p := F.priv a (.inr (.inr ⟨i, hμ⟩))
      have p' := F.priv b (.inr (.inr ⟨j, hμ'⟩))
      have hpl₁ : s₁.heap.PlainList a vs := hpl.at fun o ho => st.keep a o ho p.1
      have hpl₁' : s₁.heap.PlainList b us := hpl'.at fun o ho => st.keep b o ho p'.1
      obtain ⟨y, hy, ry⟩ := (hrd'.mono st.mono).get hd
      have hul := hrd'.length
      have htl : t.toNat < es.length := (List.getElem?_eq_some_iff.mp hd).1
      simp only [Array.length_toList] at hul
      refine pop_plain hpl₁' ht0 (by omega) (by simpa using hy) (by unfold sizeLine; (first | with_reducible exact oo9 ‹_› ‹_› | omega)) fun h' hl₁ hs₁ => ?_
      have rr' : RdAll Φ₁ (us.eraseIdxIfInBounds t.toNat).toList (es.eraseIdx t.toNat) := by
        have := (hrd'.mono st.mono).eraseIdx t.toNat
        simpa using this
      have I₁ := (I.step st).upd (F.step st) hB hj hμ' hs₁ hl₁ rr'
      have F₁ := (F.step st).upd hj hμ' hs₁ hl₁ rr'
      refine Calls.spliced_nil ?_
      have hpl₂ : h'.PlainList a vs := hpl₁.at fun o ho => (hs₁.2 a hab).trans ho
      refine wpAny_list_append_plain (s := { s₁ with heap := h' }) hpl₂ (fun h₂ hl₂ hs₂ => ?_) (by have := hrd.length; simp only [Array.length_toList] at this; unfold sizeLine; (first | with_reducible exact oo9 ‹_› ‹_› | omega))
      have rr : RdAll Φ₁ (vs.push y).toList (ds ++ [d]) := by simpa using (hrd.mono st.mono).append (.one ry)
      have I₂ := I₁.upd F₁ hB hi hμ hs₂ hl₂ rr
      obtain ⟨h₃, tk₃, rfl⟩ := st.same
      exact ⟨.next, _, σ₁, Φ₁, ⟨h₂, tk₃, rfl⟩, I₂, st.mono, trivial, q⟩
end
section
variable {X : Cx} {n : Nat} {sc : Scope} {names : List Str} {env : Env} {B Φ₀ : Fz} {ρ : List MV} {σ : Sg} {Φ : Fz} {s : Shared} {A : Around}

theorem setItem_plain {prog : Program} {w : World} {E : Value → Shared → Prop} {l : Addr} {items : Array Value} {k : Int} {t : Tok} {v : Value} {K : Unit → Shared → Prop} (hl : s.heap.PlainList l items) (h0 : 0 ≤ k) (hfit : k < 2 ^ 63)
    (hn : k < items.size) (h : ∀ h', h'.PlainList l (items.setIfInBounds k.toNat v) → Heap.SameBut l s.heap h' → K () { s with heap := h' }) : wpAny (model prog w) A (setItem (.ref l) (.int k t) v) K E s := by
  obtain ⟨m, ho⟩ := id hl
  have hT := hl.isList.typeIs
  unfold setItem
  try with_reducible refine wpAny_holding ?_
  first | refine wpAny_bind (wpAny_pure ?_) | skip
  refine wpAny_bind (wpAny_sequenceKey hT (by decide) ?_)
  refine wpAny_bind (wpAny_callSpecial?_slot (name := Str.ofString "__setitem__") hT slot_list_setitem (wpAny_call_entry slot_list_setitem hT entry_list_setitem ?_ (args_list_setitem _ _ _)))
  show wpAny _ _ (Builtin.List.listSubscript? (.int k t) >>= _) _ _ s
  refine wpAny_bind (wpAny_listSubscript_int (fitsIndex_of h0 hfit) ?_)
  clear hfit
  obtain ⟨j, rfl⟩ := Int.eq_ofNat_of_zero_le h0
  have hj : j < items.size := by omega
  have hx' : items[j]? = some items[j] := Array.getElem?_eq_getElem hj
  show wpAny _ _ ((seqItemAt l j >>= fun r => pure (r.map (j, ·))) >>= _) _ _ s
  refine wpAny_bind (wpAny_bind (wpAny_seqItemAt ho rfl (wpAny_pure ?_)))
  rw [hx']
  show wpAny _ _ (setSeqItemAt l j v >>= _) _ _ s
  have hu := Heap.get?_update_self (Obj.mapSeq (·.setIfInBounds j v)) ho rfl
  have hfin : (s.heap.update l (Obj.mapSeq (·.setIfInBounds j v))).PlainList l (items.setIfInBounds j v) := ⟨if (items.setIfInBounds j v).size == items.size then m else m + 1, hu⟩
  refine wpAny_bind (wpAny_setSeqItemAt ho rfl ?_)
  first
    | exact wpAny_bind (wpAny_pure (wpAny_pure ⟨.none, rfl, wpAny_pure (h _ hfin (Heap.SameBut.update ..))⟩))
    | exact wpAny_pure ⟨.none, rfl, wpAny_pure (h _ hfin (Heap.SameBut.update ..))⟩

theorem SS_setI {i : Nat} {x : Str} {v k : Expr} {e ek : E} {p p' pos : Pos} (hi : names[i]? = some x) (ha : accS sc x = true) (hp : plainName x = true) (hv : SE X n sc names v e) (hk : SE X n sc names k ek) (hc : notComp v = true) :
    SS X n sc names (.Assign [.Subscript (.Name x p) k p'] v pos) (.setI i ek e) := by
  intro env A s B Φ₀ ρ σ Φ Q he eo hr I h
  obtain ⟨ds, eds, hlen, h⟩ := MV.mt_of h
  refine wpAny_Assign_Subscript (wpAny_mono (hv env A s Φ ρ σ _ he eo hr I.ok I.frame h) ?_ fun xx xx h => h.elim) (swaps_false hc)
  rintro v s₁ ⟨d, σ₁, Φ₁, st, r, q⟩
  obtain ⟨m, cm, μ, F, hB⟩ := I.fr
  simp only [plainName, Bool.and_eq_true, Bool.not_eq_true'] at hp
  have F₁ := F.step st
  have I₁ := I.step st
  obtain ⟨a, vs, hμ, hlk, hpl, hrd⟩ := F₁.own hi (acc_of he ha) eds
  refine load_var eo F₁ (acc_of he ha) hlk hp.1 hp.2 ?_
  refine wpAny_mono (hk env A s₁ Φ₁ ρ σ₁ _ he eo hr st.ok I₁.frame q) ?_ fun xx xx h => h.elim
  rintro w s₂ ⟨d₂, σ₂, Φ₂, st₂, r₂, q₂⟩
  obtain ⟨j, rfl, hj0, hj1, q₂⟩ := D.int_of q₂
  cases r₂ with
  | int _ t =>
    have pr := F₁.priv a (.inr (.inr ⟨i, hμ⟩))
    have hpl₂ : s₂.heap.PlainList a vs := hpl.at fun o ho => st₂.keep a o ho pr.1
    have hl := hrd.length
    simp only [Array.length_toList] at hl
    refine setItem_plain hpl₂ hj0 (by omega) (by first | with_reducible exact ooz ‹_› ‹_› | omega) fun h' hl' hs' => ?_
    have rr : RdAll Φ₂ (vs.setIfInBounds j.toNat v).toList (ds.set j.toNat d) := by
      have := (hrd.mono st₂.mono).set j.toNat (r.mono st₂.mono)
      simpa using this
    have I' := (I₁.step st₂).upd (F₁.step st₂) hB hi hμ hs' hl' rr
    obtain ⟨h₃, tk₃, rfl⟩ := (st.trans st₂).same
    exact ⟨.next, _, σ₂, Φ₂, ⟨h', tk₃, rfl⟩, I', st.mono.trans st₂.mono, trivial, q₂⟩

/-! ## what an iterable feeds -/

noncomputable def Bx (B : Fz) (fpp : List Addr) (h : Heap) : Fz := fun b => if b ∈ fpp then h.get? b else B b

structure Ours (X : Cx) (B Φ₀ : Fz) (fpp : List Addr) : Prop where
  frz : ∀ b ∈ fpp, Φ₀ b = none
  grd : ∀ b ∈ fpp, X.g.get? b = none
  prt : ∀ b ∈ fpp, B b = none

theorem Bx_le {fpp : List Addr} {h : Heap} (O : Ours X B Φ₀ fpp) : Fz.le B (Bx B fpp h) := fun b o e => by
  unfold Bx
  by_cases q : b ∈ fpp
  · rw [O.prt b q] at e; cases e
  · rw [if_neg q]; exact e

theorem Inv.ofX {fpp : List Addr} {h h' : Heap} (O : Ours X B Φ₀ fpp) (I : Inv X env names (Bx B fpp h') Φ₀ ρ σ Φ h) : Inv X env names B Φ₀ ρ σ Φ h := by
  have le := Bx_le (h := h') O
  obtain ⟨m, cm, μ, F, hB⟩ := I.fr
  have no : ∀ a, Bx B fpp h' a = none → B a = none := fun a e => by
    cases q : B a with
    | none => rfl
    | some o => rw [le a o q] at e; cases e
  refine ⟨I.ok, I.mono0, fun b o e => I.prot b o (le b o e), fun b hb hf => I.priv b (fun q => hb (no b q)) hf, m, cm, μ, F, fun a ha => no a (hB a ha)⟩

theorem Inv.toX {fpp : List Addr} {h : Heap} (I : Inv X env names B Φ₀ ρ σ Φ h) {m cm : Str → Option Value} {μ : Nat → Option Addr} (F : FrameX X.g env names ρ σ Φ h m cm μ) (hB : ∀ a, Own env μ a → B a = none)
    (hn : ∀ b ∈ fpp, ¬ Own env μ b ∧ σ b = none ∧ Φ b = none) : Inv X env names (Bx B fpp h) Φ₀ ρ σ Φ h := by
  refine ⟨I.ok, I.mono0, fun b o e => ?_, fun b hb hf => ?_, m, cm, μ, F, fun a ha => ?_⟩
  · unfold Bx at e
    by_cases q : b ∈ fpp
    · rw [if_pos q] at e; exact ⟨e, (hn b q).2.1⟩
    · rw [if_neg q] at e; exact I.prot b o e
  · unfold Bx at hb
    by_cases q : b ∈ fpp
    · exact absurd (hn b q).2.2 hf
    · rw [if_neg q] at hb; exact I.priv b hb hf
  · unfold Bx
    by_cases q : a ∈ fpp
    · exact absurd ha (hn a q).1
    · rw [if_neg q]; exact hB a ha

theorem Inv.writeX {fpp W : List Addr} {h h' : Heap} (O : Ours X B Φ₀ fpp) (I : Inv X env names (Bx B fpp h) Φ₀ ρ σ Φ h) (al : ∀ b ∈ fpp, ∃ o, h.get? b = some o) (hW : ∀ b ∈ W, b ∈ fpp)
    (hk : ∀ b o, b ∉ W → h.get? b = some o → h'.get? b = some o) : Inv X env names (Bx B fpp h') Φ₀ ρ σ Φ h' := by
  obtain ⟨m, cm, μ, F, hB⟩ := I.fr
  have inX : ∀ b ∈ fpp, ∃ o, Bx B fpp h b = some o := fun b hb => by
    obtain ⟨o, ho⟩ := al b hb
    exact ⟨o, by unfold Bx; rw [if_pos hb]; exact ho⟩
  have trk : ∀ b ∈ fpp, σ b = none := fun b hb => let ⟨o, ho⟩ := inX b hb; (I.prot b o ho).2
  have frz : ∀ b ∈ fpp, Φ b = none := fun b hb => by
    obtain ⟨o, ho⟩ := inX b hb
    cases q : Φ b with
    | none => rfl
    | some o' => exact absurd (O.frz b hb) (I.priv b (by rw [ho]; simp) (by rw [q]; simp))
  have own : ∀ b ∈ fpp, ¬ Own env μ b := fun b hb ha => by
    obtain ⟨o, ho⟩ := inX b hb
    rw [hB b ha] at ho; cases ho
  have ko : ∀ a o, Own env μ a → h.get? a = some o → h'.get? a = some o := fun a o ha e => hk a o (fun q => own a (hW a q) ha) e
  have F' : FrameX X.g env names ρ σ Φ h' m cm μ := {
    nd := F.nd
    len := F.len
    ns := F.ns.at' fun o e => ko _ o (.inl rfl) e
    cell := fun n c hc => let ⟨o, ho, hd⟩ := F.cell n c hc; ⟨o, ko c o (.inr (.inl ⟨n, mem_of_lookup hc⟩)) ho, hd⟩
    cellsIn := fun n c hc => let ⟨o, ho⟩ := F.cellsIn n c hc; ⟨o, ko c o (.inr (.inl ⟨n, hc⟩)) ho⟩
    hasCell := F.hasCell
    apart := F.apart
    offc := F.offc
    priv := F.priv
    vars := fun j y hj hacc => (F.vars j y hj hacc).mono (Fz.le.refl _) fun a o e ho => ko a o (.inr (.inr ⟨j, e⟩)) ho
    inj := F.inj
    offm := F.offm
    live := fun j a e => let ⟨o, ho⟩ := F.live j a e; ⟨o, ko a o (.inr (.inr ⟨j, e⟩)) ho⟩ }
  have ok' : Ok X.g σ Φ h' := by
    refine ⟨fun b o e => ⟨hk b o (fun q => ?_) (I.ok.base b o e).1, (I.ok.base b o e).2⟩, fun b o e => ⟨hk b o (fun q => ?_) (I.ok.frz b o e).1, (I.ok.frz b o e).2⟩, fun b t e => (I.ok.trk b t e).mono (Fz.le.refl _) fun o ho => hk b o (fun q => ?_) ho⟩
    · rw [O.grd b (hW b q)] at e; cases e
    · rw [frz b (hW b q)] at e; cases e
    · rw [trk b (hW b q)] at e; cases e
  refine ⟨ok', I.mono0, fun b o e => ?_, fun b hb hf => ?_, m, cm, μ, F', fun a ha => ?_⟩
  · unfold Bx at e
    by_cases q : b ∈ fpp
    · rw [if_pos q] at e; exact ⟨e, trk b q⟩
    · rw [if_neg q] at e
      obtain ⟨h1, h2⟩ := I.prot b o (Bx_le O b o e)
      exact ⟨hk b o (fun z => q (hW b z)) h1, h2⟩
  · by_cases q : b ∈ fpp
    · exact absurd (frz b q) hf
    · unfold Bx at hb
      rw [if_neg q] at hb
      refine I.priv b ?_ hf
      unfold Bx
      rw [if_neg q]; exact hb
  · by_cases q : a ∈ fpp
    · exact absurd ha (own a q)
    · have := hB a ha
      unfold Bx at this ⊢
      rw [if_neg q] at this ⊢
      exact this

theorem Bx_same {fpp : List Addr} {h h' : Heap} (al : ∀ b ∈ fpp, ∃ o, h.get? b = some o) (I : Inv X env names (Bx B fpp h) Φ₀ ρ σ Φ h') : (∀ b ∈ fpp, h'.get? b = h.get? b) ∧ Bx B fpp h' = Bx B fpp h := by
  have k : ∀ b ∈ fpp, h'.get? b = h.get? b := fun b hb => by
    obtain ⟨o, ho⟩ := al b hb
    rw [ho]
    exact (I.prot b o (by unfold Bx; rw [if_pos hb]; exact ho)).1
  refine ⟨k, funext fun b => ?_⟩
  unfold Bx
  by_cases q : b ∈ fpp
  · rw [if_pos q, if_pos q]; exact k b q
  · rw [if_neg q, if_neg q]

noncomputable def Got (Φ : Fz) (h : Heap) (target : Expr) (v : Value) (r : List D) : Prop := match target with
  | .Name .. => ∃ d, r = [d] ∧ Rd Φ v d
  | .Tuple .. => ∃ T vals, v = .ref T ∧ h.IsTuple T vals ∧ RdAll Φ vals.toList r
  | _ => False
theorem Got.mono {Φ Φ' : Fz} {h : Heap} {target : Expr} {v : Value} {r : List D} (hl : Fz.le Φ Φ') (g : Got Φ h target v r) : Got Φ' h target v r := by
  cases target <;> simp only [Got] at g ⊢
  · obtain ⟨d, h1, h2⟩ := g; exact ⟨d, h1, h2.mono hl⟩
  · obtain ⟨T, vals, h1, h2, h3⟩ := g; exact ⟨T, vals, h1, h2, h3.mono hl⟩

structure Feeder (X : Cx) (A : Around) (target : Expr) (rows : List (List D)) (σ : Sg) (Φ : Fz) (s₀ s : Shared) (I : Addr) (fp wr : List Addr) (St : Nat → Heap → Prop) : Prop where
  sub : ∀ b ∈ wr, b ∈ fp
  frame : ∀ i h h', St i h → (∀ b ∈ fp, ∀ o, h.get? b = some o → h'.get? b = some o) → St i h'
  next : ∀ j (s' : Shared) (K : Value → Shared → Prop) r, rows[j]? = some r → St j s'.heap →
    (∀ v h₁ tk, Got Φ h₁ target v r → St (j + 1) h₁ → (∀ b o, b ∉ wr → s'.heap.get? b = some o → h₁.get? b = some o) → K v { s' with heap := h₁, toks := tk }) →
    wpAny (model X.prog X.w) A (pyNext (.ref I)) (fun r s₁ => ∃ v, r = some v ∧ wpAny (model X.prog X.w) A (letOwnedTupleGo target (.ref I) v) (fun xx s₂ => K v s₂) No s₁) No s'
  done : ∀ (s' : Shared) (K : Shared → Prop), St rows.length s'.heap →
    (∀ h₁ tk, (∀ b o, b ∉ wr → s'.heap.get? b = some o → h₁.get? b = some o) → K { s' with heap := h₁, toks := tk }) → wpAny (model X.prog X.w) A (pyNext (.ref I)) (fun r s₁ => r = none ∧ K s₁) No s'
  self : ∀ (s' : Shared) (K : Value → Shared → Prop), St 0 s'.heap → K (.ref I) s' → wpAny (model X.prog X.w) A (pyIter (.ref I)) K No s'
  st0 : St 0 s.heap
  inn : ∀ b ∈ fp, ∃ o, s.heap.get? b = some o
  new : ∀ b ∈ fp, Φ b ≠ none ∨ (s₀.heap.get? b = none ∧ σ b = none ∧ Φ b = none)
  wnew : ∀ b ∈ wr, s₀.heap.get? b = none ∧ σ b = none ∧ Φ b = none
  live : ∀ j h, St j h → ∀ b ∈ wr, ∃ o, h.get? b = some o

noncomputable def SI (X : Cx) (n : Nat) (sc : Scope) (names : List Str) (target x : Expr) (it : It) (k : Nat) : Prop :=
  ∀ env A s Φ ρ σ Q, env.scope = sc → EnvOk env → Room n A → Ok X.g σ Φ s.heap → Frame X.g env names ρ σ Φ s.heap → mIt X n it k ρ σ Q →
    wpAny (model X.prog X.w) A (eval x env) (fun xv s₁ => wpAny (model X.prog X.w) A (pyIter xv) (fun itv s₂ => ∃ rows σ' Φ', Step X.g s s₂ Φ Φ' σ σ' ∧ Q rows σ' ∧ (∀ r ∈ rows, r.length = k) ∧
      ∃ I fp wr St, itv = .ref I ∧ Feeder X A target rows σ' Φ' s s₂ I fp wr St) No s₁) No s

noncomputable def TgtOk (names : List Str) (sc : Scope) : Expr → List Nat → Prop
  | .Name x _, is => ∃ i, is = [i] ∧ names[i]? = some x ∧ stS sc x = true
  | .Tuple elts _ _, is => Tgts names sc elts is
  | _, _ => False

theorem assign_got {target : Expr} {is : List Nat} {v : Value} {r : List D} {K : Unit → Shared → Prop} (hr : Room n A) (eo : EnvOk env) (he : env.scope = sc) (ht : TgtOk names sc target is) (hl : r.length = is.length) (hg : Got Φ s.heap target v r)
    (I : Inv X env names B Φ₀ ρ σ Φ s.heap) (h : ∀ s', (∃ h' tk, s' = { s with heap := h', toks := tk }) → Inv X env names B Φ₀ (setAll ρ is r) σ Φ s'.heap → K () s') :
    wpAny (model X.prog X.w) A (assign target env v) K No s := by
  cases target <;> simp only [Got, TgtOk] at hg ht
  · obtain ⟨d, rfl, rd⟩ := hg
    obtain ⟨i, rfl, hi, hk⟩ := ht
    exact wpAny_assign_Name (I.storeV eo hi (st_of he hk) rd fun s' hs I' => h s' hs (by simpa [setAll] using I'))
  · obtain ⟨T, vals, rfl, hT, ra⟩ := hg
    have al := assignEach_len (env := env) ht
    have rl := ra.length
    refine wpAny_assign_Tuple hr.1 hT (by rw [al.1, ← hl, ← rl]; simp) al.2 fun h' hx => ?_
    have st' : Step X.g s { s with heap := h' } Φ Φ σ σ := Step.keeps (tk := s.toks) I.ok fun b o e => hx b o (Nat.ne_of_lt (Heap.lt_size e)) e
    refine assign_all eo he ht hl ra (I.step st') fun s' hs I' => ?_
    obtain ⟨h₂, tk₂, rfl⟩ := hs
    exact h _ ⟨h₂, tk₂, rfl⟩ I'

theorem meas_lt {a j : Nat} (h : j < a) : a + 1 - (j + 1) < a + 1 - j := by omega
theorem eq_of_ge {a j : Nat} (h : ¬ j < a) (h' : j ≤ a) : j = a := by omega
theorem le_size {a b c d : Nat} (h : a = b) (h1 : b ≤ c) (h2 : c < d) (h3 : d ≤ 2 ^ 20) : a ≤ sizeLine := by unfold sizeLine; omega
noncomputable def notSet : Expr → Bool
  | .Set .. => false
  | _ => true
theorem folded_id {e : Expr} (h : notSet e = true) (x : Value) : foldedSetIterable e env x = pure x := by
  cases e <;> first | rfl | cases h

theorem SS_for {target : Expr} {is : List Nat} {iter : Expr} {it : It} {body : List Stmt} {mb : List S} {pos : Pos} (ht : TgtOk names sc target is) (hit : SI X n sc names target iter it is.length) (hb : SSs X n sc names body mb) (hs : notSet iter = true) :
    SS X n sc names (.For target iter body [] pos) (.for_ is it mb) := by
  intro env A s B Φ₀ ρ σ Φ Q he eo hr I h
  refine wpAny_For (wpAny_mono (hit env A s Φ ρ σ _ he eo hr I.ok I.frame h) (fun xv s₁ h₁ => wpAny_mono h₁ (fun itv s₂ h₂ => ?_) fun xx xx h => h.elim) fun xx xx h => h.elim) (folded_id hs)
  obtain ⟨rows, σ₁, Φ₁, st, q, hrl, Ia, fp, wr, St, rfl, fd⟩ := h₂
  obtain ⟨m, cm, μ, F, hB⟩ := I.fr
  have F₁ := F.step st
  have I₁ := I.step st
  classical
  -- the objects of the iterator that are its own
  let fpp := fp.filter fun b => decide (Φ₁ b = none)
  have mem : ∀ b, b ∈ fpp ↔ b ∈ fp ∧ Φ₁ b = none := fun b => by simp [fpp]
  have fresh : ∀ b ∈ fpp, s.heap.get? b = none ∧ σ₁ b = none ∧ Φ₁ b = none := fun b hb => by
    rcases fd.new b ((mem b).mp hb).1 with h | h
    · exact absurd ((mem b).mp hb).2 h
    · exact h
  have hold : ∀ b ∈ fpp, ∀ o, s.heap.get? b ≠ some o := fun b hb o e => by rw [(fresh b hb).1] at e; cases e
  have O : Ours X B Φ₀ fpp := ⟨fun b hb => by
      cases e : Φ₀ b with
      | none => rfl
      | some o => exact absurd (I.ok.frz b o (I.mono0 b o e)).1 (hold b hb o),
    fun b hb => by
      cases e : X.g.get? b with
      | none => rfl
      | some o => exact absurd (I.ok.base b o e).1 (hold b hb o),
    fun b hb => by
      cases e : B b with
      | none => rfl
      | some o => exact absurd (I.prot b o e).1 (hold b hb o)⟩
  have wsub : ∀ b ∈ wr, b ∈ fpp := fun b hb => (mem b).mpr ⟨fd.sub b hb, (fd.wnew b hb).2.2⟩
  have al₀ : ∀ b ∈ fpp, ∃ o, s₂.heap.get? b = some o := fun b hb => fd.inn b ((mem b).mp hb).1
  have IX : Inv X env names (Bx B fpp s₂.heap) Φ₀ ρ σ₁ Φ₁ s₂.heap := by
    refine I₁.toX F₁ hB fun b hb => ⟨fun ho => ?_, (fresh b hb).2⟩
    rcases ho with ho | ⟨n, ho⟩ | ⟨j, ho⟩
    · subst ho; obtain ⟨o, _, _, e, _⟩ := F.ns; exact hold _ hb o e
    · obtain ⟨o, e⟩ := F.cellsIn n b ho; exact hold b hb o e
    · obtain ⟨o, e⟩ := F.live j b ho; exact hold b hb o e
  obtain ⟨hp₂, tk₂, rfl⟩ := st.same
  refine codeAny_forLoop_any (R := fun r s' => match r with | .ok f => Ex X env names B Φ₀ s Φ Q f s' | .error e => cameBackBy _ A env No e s')
    (fun k s' => ∃ j ρ' σ' Φ', (∃ h' tk, s' = { s with heap := h', toks := tk }) ∧ Inv X env names (Bx B fpp s'.heap) Φ₀ ρ' σ' Φ' s'.heap ∧ Fz.le Φ₁ Φ' ∧ (∀ b ∈ fpp, ∃ o, s'.heap.get? b = some o) ∧ St j s'.heap ∧
      forT (mExecs X n mb) is (rows.drop j) ρ' σ' Q ∧ j ≤ rows.length ∧ k = rows.length + 1 - j) ?_ (rows.length + 1)
    ⟨0, ρ, σ₁, Φ₁, ⟨hp₂, tk₂, rfl⟩, IX, Fz.le.refl _, al₀, fd.st0, by simpa using q, Nat.zero_le _, rfl⟩
  rintro k s' ⟨j, ρ', σ', Φ', ⟨h', tk, rfl⟩, I', le', al', st', q', hj, rfl⟩
  by_cases hlt : j < rows.length
  · have hrow : rows[j]? = some rows[j] := List.getElem?_eq_getElem hlt
    refine wpAny_mono (fd.next j _ (fun v s₂ => wpAny (model X.prog X.w) A (assign target env v) (fun xx s₃ => wpAny (model X.prog X.w) A (execs body env) (fun f s₄ => match f with
            | .next | .cont => ∃ m, m < rows.length + 1 - j ∧ ∃ j ρ' σ' Φ', (∃ h' tk, s₄ = { s with heap := h', toks := tk }) ∧ Inv X env names (Bx B fpp s₄.heap) Φ₀ ρ' σ' Φ' s₄.heap ∧ Fz.le Φ₁ Φ' ∧ (∀ b ∈ fpp, ∃ o, s₄.heap.get? b = some o) ∧ St j s₄.heap ∧
                forT (mExecs X n mb) is (rows.drop j) ρ' σ' Q ∧ j ≤ rows.length ∧ m = rows.length + 1 - j
            | .brk => Ex X env names B Φ₀ s Φ Q .next s₄
            | .ret v => Ex X env names B Φ₀ s Φ Q (.ret v) s₄) No s₃) No s₂) rows[j] hrow st' fun v h₁ tk₁ hG hst₁ hk₁ => ?_) ?_ fun xx xx h => h.elim
    rotate_left
    · rintro r s₁ ⟨v, rfl, hv⟩
      exact wpAny_mono hv (fun xx s₂ h₂ => wpAny_mono h₂ (fun xx s₃ h₃ => wpAny_mono h₃ (fun f s₄ h₄ => by cases f <;> exact h₄) fun xx xx h => h.elim) fun xx xx h => h.elim) fun xx xx h => h.elim
    have al₁ : ∀ b ∈ fpp, ∃ o, h₁.get? b = some o := fun b hb => by
      by_cases hw : b ∈ wr
      · exact fd.live _ _ hst₁ b hw
      · obtain ⟨o, ho⟩ := al' b hb; exact ⟨o, hk₁ b o hw ho⟩
    have I₁' := Inv.writeX (h' := h₁) O I' al' wsub hk₁
    refine assign_got (s := { s with heap := h₁, toks := tk₁ }) hr eo he ht (hrl _ (List.getElem_mem hlt)) (hG.mono le') I₁' fun s₃ hs₃ I₃ => ?_
    obtain ⟨h₃, tk₃, rfl⟩ := hs₃
    obtain ⟨same₃, eqB⟩ := Bx_same al₁ I₃
    have frz : ∀ b, b ∈ fp → b ∉ fpp → ∃ o, Φ₁ b = some o := fun b hb hn => by
      cases e : Φ₁ b with
      | none => exact absurd ((mem b).mpr ⟨hb, e⟩) hn
      | some o => exact ⟨o, rfl⟩
    have st₃ : St (j + 1) h₃ := fd.frame _ _ _ hst₁ fun b hb o e => by
      by_cases hf : b ∈ fpp
      · exact (same₃ b hf).trans e
      · obtain ⟨o', ho'⟩ := frz b hb hf
        have e1 := (I₁'.ok.frz b o' (le' b o' ho')).1
        rw [e1] at e; cases e
        exact (I₃.ok.frz b o (le' b o ho')).1
    have hdrop : rows.drop j = rows[j] :: rows.drop (j + 1) := List.drop_eq_getElem_cons hlt
    rw [hdrop] at q'
    obtain ⟨P, q', hret, hnext⟩ := q'
    have al₃ : ∀ b ∈ fpp, ∃ o, h₃.get? b = some o := fun b hb => by rw [same₃ b hb]; exact al₁ b hb
    refine wpAny_mono (hb env A _ (Bx B fpp h₁) Φ₀ _ σ' Φ' _ he eo hr I₃ q') ?_ fun xx xx h => h.elim
    rintro f s₄ ⟨fl, ρ₄, σ₄, Φ₄, ⟨h₄, tk₄, rfl⟩, I₄, le₄, fr, q₄⟩
    cases fl with
    | next =>
      cases f <;> simp only [FlRel] at fr
      obtain ⟨same₄, eqB₄⟩ := Bx_same al₁ I₄
      refine ⟨rows.length + 1 - (j + 1), meas_lt hlt, j + 1, ρ₄, σ₄, Φ₄, ⟨h₄, tk₄, rfl⟩, ?_, le'.trans le₄, fun b hb => ?_, ?_, hnext _ _ q₄, hlt, rfl⟩
      · show Inv X env names (Bx B fpp h₄) Φ₀ ρ₄ σ₄ Φ₄ h₄
        rw [eqB₄]; exact I₄
      · show ∃ o, h₄.get? b = some o
        rw [same₄ b hb]; exact al₁ b hb
      · refine fd.frame _ _ _ hst₁ fun b hb o e => ?_
        by_cases hf : b ∈ fpp
        · exact (same₄ b hf).trans e
        · obtain ⟨o', ho'⟩ := frz b hb hf
          have e1 := (I₁'.ok.frz b o' (le' b o' ho')).1
          rw [e1] at e; cases e
          exact (I₄.ok.frz b o (le₄ b o (le' b o ho'))).1
    | ret d' =>
      cases f <;> simp only [FlRel] at fr
      exact ⟨.ret d', ρ₄, σ₄, Φ₄, ⟨h₄, tk₄, rfl⟩, I₄.ofX O, st.mono.trans (le'.trans le₄), fr, hret _ _ _ q₄⟩
  · have hje : j = rows.length := eq_of_ge hlt hj
    subst hje
    refine wpAny_mono (fd.done _ (fun s₁ => Ex X env names B Φ₀ s Φ Q .next s₁) st' fun h₁ tk₁ hk₁ => ?_) (by rintro r s₁ ⟨rfl, h⟩; exact wpAny_execs_nil h) fun xx xx h => h.elim
    have I₁' := Inv.writeX (h' := h₁) O I' al' wsub hk₁
    simp only [List.drop_length, forT] at q'
    exact ⟨.next, ρ', σ', Φ', ⟨h₁, tk₁, rfl⟩, I₁'.ofX O, st.mono.trans le', trivial, q'⟩
end
section
variable {X : Cx} {n : Nat} {sc : Scope} {names : List Str}

theorem Feeder.ofWalks {A : Around} {x : Str} {p : Pos} {rows : List (List D)} {σ : Sg} {Φ : Fz} {s₀ s : Shared} {I : Addr} {fp wr : List Addr} {P : Nat → Value → Prop} {St : Nat → Heap → Prop}
    (W : Walks X.prog X.w A I fp wr rows.length P St) (st0 : St 0 s.heap) (rd : ∀ j v, j < rows.length → P j v → ∃ d, rows[j]? = some [d] ∧ Rd Φ v d) (inn : ∀ b ∈ fp, ∃ o, s.heap.get? b = some o)
    (new : ∀ b ∈ fp, Φ b ≠ none ∨ (s₀.heap.get? b = none ∧ σ b = none ∧ Φ b = none)) (wnew : ∀ b ∈ wr, s₀.heap.get? b = none ∧ σ b = none ∧ Φ b = none) (live : ∀ j h, St j h → ∀ b ∈ wr, ∃ o, h.get? b = some o) :
    Feeder X A (.Name x p) rows σ Φ s₀ s I fp wr St where
  sub := W.sub
  frame := W.frame
  next := fun j s' K r hr hst h => by
    have hj : j < rows.length := (List.getElem?_eq_some_iff.mp hr).1
    refine W.item j s' _ _ hj hst fun v h₁ tk hP hst₁ hk => ⟨v, rfl, wpAny_pure (h v h₁ tk ?_ hst₁ hk)⟩
    obtain ⟨d, hd, r'⟩ := rd j v hj hP
    rw [hr] at hd; cases hd
    exact ⟨d, rfl, r'⟩
  done := fun s' K hst h => W.done s' _ _ hst fun h₁ tk hk => ⟨rfl, h h₁ tk hk⟩
  self := fun s' K hst h => W.self 0 s' _ _ hst h
  st0 := st0
  inn := inn
  new := new
  wnew := wnew
  live := live

theorem Feeder.ofWalksU {A : Around} {elts : List Expr} {k : Nat} {p : Pos} {rows : List (List D)} {σ : Sg} {Φ : Fz} {s₀ s : Shared} {I : Addr} {fp wr : List Addr} {P : Nat → Array Value → Prop} {St : Nat → Heap → Prop} {Mid : Nat → Addr → Heap → Prop}
    (W : WalksU X.prog X.w A I fp wr rows.length P St Mid) (st0 : St 0 s.heap) (rd : ∀ j vs, j < rows.length → P j vs → ∃ r, rows[j]? = some r ∧ RdAll Φ vs.toList r) (inn : ∀ b ∈ fp, ∃ o, s.heap.get? b = some o)
    (new : ∀ b ∈ fp, Φ b ≠ none ∨ (s₀.heap.get? b = none ∧ σ b = none ∧ Φ b = none)) (wnew : ∀ b ∈ wr, s₀.heap.get? b = none ∧ σ b = none ∧ Φ b = none) (live : ∀ j h, St j h → ∀ b ∈ wr, ∃ o, h.get? b = some o) :
    Feeder X A (.Tuple elts k p) rows σ Φ s₀ s I fp wr St where
  sub := W.sub
  frame := W.frame
  next := fun j s' K r hr hst h => by
    have hj : j < rows.length := (List.getElem?_eq_some_iff.mp hr).1
    refine W.item j s' _ _ hj hst fun T vals h₁ tk hP hT hm hk => ⟨.ref T, rfl, W.go elts k p j T _ _ _ hm fun h₂ hst₂ hk₂ => h (.ref T) h₂ tk ?_ hst₂ fun b o hb e => hk₂ b o hb (hk b o hb e)⟩
    obtain ⟨r', hr', ra⟩ := rd j vals hj hP
    rw [hr] at hr'; cases hr'
    exact ⟨T, vals, rfl, hT.at fun o e => hk₂ T o (W.apart j T h₁ hm) e, ra⟩
  done := fun s' K hst h => W.done s' _ _ hst fun h₁ tk hk => ⟨rfl, h h₁ tk hk⟩
  self := fun s' K hst h => W.self 0 s' _ _ hst h
  st0 := st0
  inn := inn
  new := new
  wnew := wnew
  live := live

theorem SI_seq {x : Expr} {e : E} {y : Str} {p : Pos} (hx : SE X n sc names x e) : SI X n sc names (.Name y p) x (.seq e) 1 := by
  intro env A s Φ ρ σ Q he eo hroom ok F h
  refine wpAny_mono (hx env A s Φ ρ σ _ he eo hroom ok F h) ?_ fun xx xx h => h.elim
  rintro v s₁ ⟨d, σ₁, Φ₁, st, r, q⟩
  obtain ⟨rows, hrows, q⟩ := seqT_of q
  have hn := size_none s₁.heap
  cases hrows with
  | many rows h1 => exact absurd rfl h1
  | one ds =>
    obtain ⟨a, rfl⟩ := r.lst_ref
    obtain ⟨vs, hl, ra, hfa⟩ := r.isList st.ok
    have hlen := ra.length
    simp only [Array.length_toList] at hlen
    have ha : ∃ o, s₁.heap.get? a = some o := let ⟨o, ho, _⟩ := hl; ⟨o, ho⟩
    have hne : a ≠ s₁.heap.objs.size := fun q => by obtain ⟨o, ho⟩ := ha; rw [q, hn] at ho; cases ho
    refine wpAny_pyIter_list hl ?_
    have st₂ := push_step st.ok { cls := .type "list_iterator", data := .fields #[.ref a, .int 0 0] }
    have hrl : (ds.map fun d => [d]).length = vs.size := by simp [hlen]
    refine ⟨_, σ₁, Φ₁, st.trans st₂, q, by simp, s₁.heap.objs.size, [s₁.heap.objs.size, a], [s₁.heap.objs.size], (fun i h => h.IsListIter s₁.heap.objs.size a i ∧ h.IsList a vs), rfl, ?_⟩
    refine .ofWalks (P := fun i v => vs[i]? = some v) (hrl ▸ Walks.list hroom.1 s₁.heap.objs.size a hne vs) ⟨⟨_, Heap.get?_push_size _ rfl, rfl, rfl⟩, hl.push _⟩ (fun j v hj hv => ?_) (fun b hb => ?_) (fun b hb => ?_) (fun b hb => ?_) (fun j h hst b hb => ?_)
    · obtain ⟨d, hd, r⟩ := ra.get' (k := j) (v := v) (by simpa using hv)
      exact ⟨d, by simp [hd], r⟩
    · rcases List.mem_cons.mp hb with rfl | hb
      · exact ⟨_, Heap.get?_push_size _ rfl⟩
      · rcases List.mem_cons.mp hb with rfl | hb
        · obtain ⟨o, ho⟩ := ha; exact ⟨o, Heap.get?_push_of_some _ ho⟩
        · cases hb
    · rcases List.mem_cons.mp hb with rfl | hb
      · exact .inr ⟨st.live _ hn, st.ok.freshS hn, st.ok.freshF hn⟩
      · rcases List.mem_cons.mp hb with rfl | hb
        · exact .inl hfa
        · cases hb
    · rcases List.mem_cons.mp hb with rfl | hb
      · exact ⟨st.live _ hn, st.ok.freshS hn, st.ok.freshF hn⟩
      · cases hb
    · rcases List.mem_cons.mp hb with rfl | hb
      · obtain ⟨o, ho, _⟩ := hst.1; exact ⟨o, ho⟩
      · cases hb
  | tup ds =>
    obtain ⟨a, rfl⟩ := r.tup_ref
    obtain ⟨vs, hl, ra, hfa⟩ := r.isTup st.ok
    have hlen := ra.length
    simp only [Array.length_toList] at hlen
    have ha : ∃ o, s₁.heap.get? a = some o := let ⟨o, ho, _⟩ := hl; ⟨o, ho⟩
    have hne : a ≠ s₁.heap.objs.size := fun q => by obtain ⟨o, ho⟩ := ha; rw [q, hn] at ho; cases ho
    refine wpAny_pyIter_tuple hl ?_
    have st₂ := push_step st.ok { cls := .type "tuple_iterator", data := .fields #[.ref a, .int 0 0] }
    have hrl : (ds.map fun d => [d]).length = vs.size := by simp [hlen]
    refine ⟨_, σ₁, Φ₁, st.trans st₂, q, by simp, s₁.heap.objs.size, [s₁.heap.objs.size, a], [s₁.heap.objs.size], (fun i h => h.IsTupleIter s₁.heap.objs.size a i ∧ h.IsTuple a vs), rfl, ?_⟩
    refine .ofWalks (P := fun i v => vs[i]? = some v) (hrl ▸ Walks.tuple hroom.1 s₁.heap.objs.size a hne vs) ⟨⟨_, Heap.get?_push_size _ rfl, rfl, rfl⟩, Heap.IsTuple.push hl _⟩ (fun j v hj hv => ?_) (fun b hb => ?_) (fun b hb => ?_) (fun b hb => ?_) (fun j h hst b hb => ?_)
    · obtain ⟨d, hd, r⟩ := ra.get' (k := j) (v := v) (by simpa using hv)
      exact ⟨d, by simp [hd], r⟩
    · rcases List.mem_cons.mp hb with rfl | hb
      · exact ⟨_, Heap.get?_push_size _ rfl⟩
      · rcases List.mem_cons.mp hb with rfl | hb
        · obtain ⟨o, ho⟩ := ha; exact ⟨o, Heap.get?_push_of_some _ ho⟩
        · cases hb
    · rcases List.mem_cons.mp hb with rfl | hb
      · exact .inr ⟨st.live _ hn, st.ok.freshS hn, st.ok.freshF hn⟩
      · rcases List.mem_cons.mp hb with rfl | hb
        · exact .inl hfa
        · cases hb
    · rcases List.mem_cons.mp hb with rfl | hb
      · exact ⟨st.live _ hn, st.ok.freshS hn, st.ok.freshF hn⟩
      · cases hb
    · rcases List.mem_cons.mp hb with rfl | hb
      · obtain ⟨o, ho, _⟩ := hst.1; exact ⟨o, ho⟩
      · cases hb

theorem SI_range {x : Expr} {e : E} {y : Str} {py p pos : Pos} (G : Gnd X) (hx : SE X n sc names x e) (hk : sc.names.lookup ("range" : Str) = some .globalImplicit) (hs : notStar x = true) :
    SI X n sc names (.Name y py) (.Call (.Name "range" p) [x] [] pos) (.range e) 1 := by
  intro env A s Φ ρ σ Q he eo hroom ok F h
  refine range_obj G hx hk hs he eo hroom ok F h (fun d σ q => ?_) ?_
  · obtain ⟨i, e, _⟩ := D.int_of q; exact ⟨i, e⟩
  intro r i t s₁ s₂ σ₁ Φ₁ st st₂ hnr q hr
  obtain ⟨u, w, hr⟩ := hr
  obtain ⟨_, q⟩ := q
  have hn := size_none s₂.heap
  have stt := st.trans st₂
  refine wpAny_pyIter_range hr (small_one (by decide) (by decide) q.1 q.2.1) ?_
  have hsz : Builtin.Range.rangeSize 0 i 1 = (i.toNat : Int) := by rw [rangeSize_one]; split <;> omega
  have st₃ := push_step st₂.ok { cls := .type "range_iterator", data := .fields #[rawInt 0, rawInt (Builtin.Range.rangeSize 0 i 1), rawInt 1] }
  have hrl : ((List.range i.toNat).map fun (j : Nat) => [D.int (j : Int)]).length = i.toNat := by simp
  refine ⟨_, σ₁, Φ₁, stt.trans st₃, q.2.2, by simp, s₂.heap.objs.size, [s₂.heap.objs.size], [s₂.heap.objs.size], (fun j h => IsRangeIter h s₂.heap.objs.size (0 + (j : Nat) * 1) ((i.toNat : Int) - (j : Nat)) 1), rfl, ?_⟩
  refine .ofWalks (P := fun (j : Nat) v => ∃ t, v = .int (0 + (j : Int) * 1) t) (by rw [hrl]; exact Walks.range hroom.1 s₂.heap.objs.size 0 1 i.toNat) ?_ (fun j v hj hv => ?_) (fun b hb => ?_) (fun b hb => ?_) (fun b hb => ?_) (fun j h hst b hb => ?_)
  · have e1 : (0 + ((0 : Nat) : Int) * 1) = 0 := by simp
    have e2 : ((i.toNat : Int) - ((0 : Nat) : Int)) = Builtin.Range.rangeSize 0 i 1 := by rw [hsz]; simp
    rw [e1, e2]
    exact Heap.get?_push_size _ rfl
  · obtain ⟨t, rfl⟩ := hv
    rw [hrl] at hj
    refine ⟨.int j, by simp [hj], ?_⟩
    have : (0 + (j : Int) * 1) = j := by omega
    rw [this]
    exact .int _ _
  · rcases List.mem_cons.mp hb with rfl | hb
    · exact ⟨_, Heap.get?_push_size _ rfl⟩
    · cases hb
  · rcases List.mem_cons.mp hb with rfl | hb
    · exact .inr ⟨stt.live _ hn, st₂.ok.freshS hn, st₂.ok.freshF hn⟩
    · cases hb
  · rcases List.mem_cons.mp hb with rfl | hb
    · exact ⟨stt.live _ hn, st₂.ok.freshS hn, st₂.ok.freshF hn⟩
    · cases hb
  · rcases List.mem_cons.mp hb with rfl | hb
    · exact ⟨_, hst⟩
    · cases hb
end
/-! ## comprehensions -/

theorem Step.write {g : Heap} {s s' : Shared} {Φ Φ' : Fz} {σ σ' : Sg} (x : Step g s s' Φ Φ' σ σ') (okS : Ok g σ Φ s.heap) {h₁ : Heap} {tk : Nat} {W : List Addr} (hW : ∀ b ∈ W, s.heap.get? b = none ∧ σ' b = none ∧ Φ' b = none)
    (hk : ∀ b o, b ∉ W → s'.heap.get? b = some o → h₁.get? b = some o) : Step g s { s' with heap := h₁, toks := tk } Φ Φ' σ σ' := by
  obtain ⟨hp, t0, rfl⟩ := x.same
  refine ⟨⟨h₁, tk, rfl⟩, fun b o e hs => hk b o (fun q => ?_) (x.keep b o e hs), x.mono, ⟨fun b o e => ⟨hk b o (fun q => ?_) (x.ok.base b o e).1, (x.ok.base b o e).2⟩, fun b o e => ⟨hk b o (fun q => ?_) (x.ok.frz b o e).1, (x.ok.frz b o e).2⟩,
    fun b t e => (x.ok.trk b t e).mono (Fz.le.refl _) fun o ho => hk b o (fun q => ?_) ho⟩, x.newS, x.newF, fun b hb => ?_⟩
  · rw [(hW b q).1] at e; cases e
  · have := (okS.base b o e).1; rw [(hW b q).1] at this; cases this
  · rw [(hW b q).2.2] at e; cases e
  · rw [(hW b q).2.1] at e; cases e
  · by_cases q : b ∈ W
    · exact (hW b q).1
    · cases e : hp.get? b with
      | none => exact x.live b e
      | some o => have := hk b o q e; rw [show h₁.get? b = none from hb] at this; cases this

theorem FrameX.kept {g : Heap} {env : Env} {names : List Str} {ρ : List MV} {σ : Sg} {Φ : Fz} {h h' : Heap} {m cm : Str → Option Value} {μ : Nat → Option Addr} (F : FrameX g env names ρ σ Φ h m cm μ)
    (ko : ∀ a o, Own env μ a → h.get? a = some o → h'.get? a = some o) : FrameX g env names ρ σ Φ h' m cm μ where
  nd := F.nd
  len := F.len
  ns := F.ns.at' fun o e => ko _ o (.inl rfl) e
  cell := fun n c hc => let ⟨o, ho, hd⟩ := F.cell n c hc; ⟨o, ko c o (.inr (.inl ⟨n, mem_of_lookup hc⟩)) ho, hd⟩
  cellsIn := fun n c hc => let ⟨o, ho⟩ := F.cellsIn n c hc; ⟨o, ko c o (.inr (.inl ⟨n, hc⟩)) ho⟩
  hasCell := F.hasCell
  apart := F.apart
  offc := F.offc
  priv := F.priv
  vars := fun j y hj hacc => (F.vars j y hj hacc).mono (Fz.le.refl _) fun a o e ho => ko a o (.inr (.inr ⟨j, e⟩)) ho
  inj := F.inj
  offm := F.offm
  live := fun j a e => let ⟨o, ho⟩ := F.live j a e; ⟨o, ko a o (.inr (.inr ⟨j, e⟩)) ho⟩

noncomputable def unbAll (ρ : List MV) : List Nat → List MV
  | [] => ρ
  | i :: is => unbAll (ρ.set i .unb) is

theorem unbAll_len (is : List Nat) : ∀ ρ : List MV, (unbAll ρ is).length = ρ.length := by
  induction is with
  | nil => intro ρ; rfl
  | cons i is ih => intro ρ; rw [unbAll, ih, List.length_set]
theorem setAll_len : ∀ (is : List Nat) (ds : List D) (ρ : List MV), (setAll ρ is ds).length = ρ.length
  | [], _, ρ => by simp [setAll]
  | _ :: _, [], ρ => by simp [setAll]
  | i :: is, d :: ds, ρ => by simp [setAll, setAll_len is ds]
theorem unbAll_out (is : List Nat) : ∀ (ρ : List MV) (j : Nat), j ∉ is → (unbAll ρ is)[j]? = ρ[j]? := by
  induction is with
  | nil => intro ρ j _; rfl
  | cons i is ih =>
    intro ρ j hj
    simp only [List.mem_cons, not_or] at hj
    rw [unbAll, ih _ _ hj.2, List.getElem?_set_ne (Ne.symm hj.1)]
theorem unbAll_in (is : List Nat) : ∀ (ρ : List MV) (j : Nat), j ∈ is → (unbAll ρ is).getD j .unb = .unb := by
  induction is with
  | nil => intro ρ j h; cases h
  | cons i is ih =>
    intro ρ j hj
    rw [unbAll]
    by_cases q : j ∈ is
    · exact ih _ _ q
    · have hji : j = i := by
        rcases List.mem_cons.mp hj with h | h
        · exact h
        · exact absurd h q
      subst hji
      have := unbAll_out is (ρ.set j .unb) j q
      simp only [List.getD, this]
      by_cases hl : j < ρ.length
      · simp [hl]
      · rw [List.getElem?_eq_none (by simpa using hl)]; rfl
theorem setAll_agree : ∀ (is : List Nat) (ds : List D) (ρ₁ ρ₂ : List MV), ds.length = is.length → ρ₁.length = ρ₂.length → (∀ j, j ∉ is → ρ₁[j]? = ρ₂[j]?) → setAll ρ₁ is ds = setAll ρ₂ is ds
  | [], ds, ρ₁, ρ₂, _, _, h => by
    simp only [setAll]
    exact List.ext_getElem? fun j => h j (by simp)
  | _ :: _, [], _, _, hl, _, _ => by simp at hl
  | i :: is, d :: ds, ρ₁, ρ₂, hl, hlen, h => by
    simp only [setAll]
    refine setAll_agree is ds _ _ (by simpa using hl) (by simpa using hlen) fun j hj => ?_
    by_cases q : i = j
    · subst q
      by_cases hi : i < ρ₁.length
      · rw [List.getElem?_set_self hi, List.getElem?_set_self (hlen ▸ hi)]
      · rw [List.getElem?_eq_none (by simpa using hi), List.getElem?_eq_none (by simp; omega)]
    · rw [List.getElem?_set_ne q, List.getElem?_set_ne q]
      exact h j (by simp only [List.mem_cons, not_or]; exact ⟨Ne.symm q, hj⟩)
theorem setAll_unb {is : List Nat} {ds : List D} {ρ : List MV} (h : ds.length = is.length) : setAll (unbAll ρ is) is ds = setAll ρ is ds :=
  setAll_agree is ds _ _ h (unbAll_len is ρ) fun j hj => unbAll_out is ρ j hj

theorem setAll_out : ∀ (is : List Nat) (ds : List D) (ρ : List MV) (j : Nat), j ∉ is → (setAll ρ is ds)[j]? = ρ[j]?
  | [], ds, ρ, j, _ => by simp [setAll]
  | _ :: _, [], ρ, j, _ => by simp [setAll]
  | i :: is, d :: ds, ρ, j, h => by
    simp only [List.mem_cons, not_or] at h
    rw [setAll, setAll_out is ds _ j h.2, List.getElem?_set_ne (Ne.symm h.1)]

theorem FrameX.weaken {g : Heap} {env : Env} {names : List Str} {ρ₁ ρ₂ : List MV} {σ : Sg} {Φ : Fz} {h : Heap} {m cm : Str → Option Value} {μ : Nat → Option Addr} (F : FrameX g env names ρ₁ σ Φ h m cm μ)
    (hl : ρ₂.length = ρ₁.length) (hw : ∀ j, ρ₂.getD j .unb = ρ₁.getD j .unb ∨ (ρ₂.getD j .unb = .unb ∧ μ j = none)) : FrameX g env names ρ₂ σ Φ h m cm μ :=
  { F with
    len := hl.trans F.len
    vars := fun j y hj hacc => by
      rcases hw j with e | ⟨e1, e2⟩
      · rw [e]; exact F.vars j y hj hacc
      · rw [e1]; exact e2 }

section
variable {X : Cx} {n : Nat} {sc : Scope} {names : List Str}

structure CF (X : Cx) (env' : Env) (names : List Str) (s : Shared) (Φ : Fz) (σ : Sg) (cm : Str → Option Value) (μ : Nat → Option Addr) (ρ' : List MV) (s' : Shared) (Φ' : Fz) (σ' : Sg) : Prop where
  step : Step X.g s s' Φ Φ' σ σ'
  fr : ∃ m, FrameX X.g env' names ρ' σ' Φ' s'.heap m cm μ

variable {env' : Env} {s : Shared} {Φ : Fz} {σ : Sg} {cm : Str → Option Value} {μ : Nat → Option Addr} {A : Around}

theorem CF.store {ρ' : List MV} {s' : Shared} {Φ' : Fz} {σ' : Sg} {i : Nat} {x : Str} {v : Value} {d : D} {K : Unit → Shared → Prop} (c : CF X env' names s Φ σ cm μ ρ' s' Φ' σ') (okS : Ok X.g σ Φ s.heap) (hC : s.heap.get? env'.locals = none) (eo : EnvOk env')
    (hi : names[i]? = some x) (hk : env'.kindOf x = some .local) (hμ : μ i = none) (r : Rd Φ' v d)
    (h : ∀ h₁ tk, CF X env' names s Φ σ cm μ (ρ'.set i (.val d)) { s' with heap := h₁, toks := tk } Φ' σ' → (∀ b o, b ≠ env'.locals → s'.heap.get? b = some o → h₁.get? b = some o) → K () { s' with heap := h₁, toks := tk }) :
    wpAny (model X.prog X.w) A (storeName env' x v) K No s' := by
  obtain ⟨m, F⟩ := c.fr
  refine wpAny_storeName_local hk F.ns (fun h' hn hs => ?_) (by rw [eo.kind]; rfl)
  have p := F.priv env'.locals (.inl rfl)
  refine h h' _ ⟨c.step.write okS (W := [env'.locals]) (fun b hb => ?_) fun b o hb e => (hs.2 b (by simpa using hb)).trans e, (fun y => if y = x then some v else m y), ?_⟩ fun b o hb e => (hs.2 b hb).trans e
  · have : b = env'.locals := by simpa using hb
    subst this
    exact ⟨hC, p.1, p.2.1⟩
  · have hm : (fun j => if j = i then none else μ j) = μ := funext fun j => by
      by_cases q : j = i
      · simp [q, hμ]
      · simp [q]
    have hlv : ∃ o, h'.get? env'.locals = some o := by obtain ⟨o, _, _, ho, _⟩ := hn; exact ⟨o, ho⟩
    have := F.put (μi := none) (mv := .val d) hi (.inl rfl) hs hn (fun n c hc => (F.cell n c hc).sameBut hs (F.offc n c (mem_of_lookup hc))) hlv (look_put hk) (fun y hy => look_put_ne hy) ⟨rfl, v, rfl, r⟩ (fun a e => by cases e)
    rw [hm] at this
    exact this

noncomputable def TgtsL (names : List Str) (sc' : Scope) : List Expr → List Nat → Prop
  | [], [] => True
  | .Name x _ :: es, i :: is => names[i]? = some x ∧ sc'.names.lookup x = some .local ∧ TgtsL names sc' es is
  | _, _ => False
theorem TgtsL.tgts {sc' : Scope} : ∀ {es : List Expr} {is : List Nat}, TgtsL names sc' es is → Tgts names sc' es is
  | [], [], _ => trivial
  | [], _ :: _, h => by simp [TgtsL] at h
  | e :: es, [], h => by cases e <;> simp [TgtsL] at h
  | e :: es, i :: is, h => by
    cases e <;> simp only [TgtsL] at h
    exact ⟨h.1, by simp [stS, h.2.1], h.2.2.tgts⟩
noncomputable def TgtOkL (names : List Str) (sc' : Scope) : Expr → List Nat → Prop
  | .Name x _, is => ∃ i, is = [i] ∧ names[i]? = some x ∧ sc'.names.lookup x = some .local
  | .Tuple elts _ _, is => TgtsL names sc' elts is
  | _, _ => False

set_option tactic.hygienic true in
theorem CF.assign_all {sc' : Scope} (eo : EnvOk env') (he : env'.scope = sc') (okS : Ok X.g σ Φ s.heap) (hC : s.heap.get? env'.locals = none) {Φ' : Fz} {σ' : Sg} :
    ∀ {es : List Expr} {is : List Nat} {vs : List Value} {ds : List D} {ρ' : List MV} {s' : Shared} {K : Unit → Shared → Prop}, TgtsL names sc' es is → (∀ i ∈ is, μ i = none) → ds.length = is.length → RdAll Φ' vs ds →
    CF X env' names s Φ σ cm μ ρ' s' Φ' σ' →
    (∀ h₁ tk, CF X env' names s Φ σ cm μ (setAll ρ' is ds) { s' with heap := h₁, toks := tk } Φ' σ' → (∀ b o, b ≠ env'.locals → s'.heap.get? b = some o → h₁.get? b = some o) → K () { s' with heap := h₁, toks := tk }) →
    wpAny (model X.prog X.w) A (assignInOrder ((assignEach es env').map (·.2)) vs) K No s'
  | [], [], vs, ds, ρ', s', K, _, _, hlen, r, c, h => by
    have : ds = [] := by simpa using hlen
    subst this
    cases r
    exact wpAny_pure (h s'.heap s'.toks (by simpa [setAll] using c) fun xx xx xx e => e)
  | [], _ :: _, _, _, _, _, _, ht, _, _, _, _, _ => by simp [TgtsL] at ht
  | e :: _, [], _, _, _, _, _, ht, _, _, _, _, _ => by cases e <;> simp [TgtsL] at ht
  | e :: es, i :: is, vs, ds, ρ', s', K, ht, hμ, hlen, r, c, h => by
    cases e <;> simp only [TgtsL] at ht
    rename_i x p
    cases r with
    | nil => simp at hlen
    | cons r1 r2 =>
      show wpAny _ A (do holding _ (assign (.Name x p) env' _); assignInOrder ((assignEach es env').map (·.2)) _) _ _ s'
      refine wpAny_bind (wpAny_holding (wpAny_assign_Name (c.store okS hC eo ht.1 (by rw [Env.kindOf_sc he]; exact ht.2.1) (hμ i (.head _)) r1 fun h₁ tk c₁ k₁ => ?_)))
      refine CF.assign_all eo he okS hC ht.2.2 (fun j hj => hμ j (.tail _ hj)) (by simpa using hlen) r2 c₁ fun h₂ tk₂ c₂ k₂ => ?_
      exact h h₂ tk₂ (by simpa [setAll] using c₂) fun b o hb e => k₂ b o hb (k₁ b o hb e)

theorem CF.assign_got {sc' : Scope} {target : Expr} {is : List Nat} {v : Value} {r : List D} {ρ' : List MV} {s' : Shared} {Φ' : Fz} {σ' : Sg} {K : Unit → Shared → Prop} (hr : Room n A) (eo : EnvOk env') (he : env'.scope = sc') (okS : Ok X.g σ Φ s.heap)
    (hC : s.heap.get? env'.locals = none) (ht : TgtOkL names sc' target is) (hμ : ∀ i ∈ is, μ i = none) (hl : r.length = is.length) (hg : Got Φ' s'.heap target v r) (c : CF X env' names s Φ σ cm μ ρ' s' Φ' σ')
    (h : ∀ h₁ tk, CF X env' names s Φ σ cm μ (setAll ρ' is r) { s' with heap := h₁, toks := tk } Φ' σ' → (∀ b o, b ≠ env'.locals → s'.heap.get? b = some o → h₁.get? b = some o) → K () { s' with heap := h₁, toks := tk }) :
    wpAny (model X.prog X.w) A (assign target env' v) K No s' := by
  cases target <;> simp only [Got, TgtOkL] at hg ht
  · obtain ⟨d, rfl, rd⟩ := hg
    obtain ⟨i, rfl, hi, hk⟩ := ht
    exact wpAny_assign_Name (c.store okS hC eo hi (by rw [Env.kindOf_sc he]; exact hk) (hμ i (by simp)) rd fun h₁ tk c₁ k₁ => h h₁ tk (by simpa [setAll] using c₁) k₁)
  · obtain ⟨T, vals, rfl, hT, ra⟩ := hg
    have al := assignEach_len (env := env') ht.tgts
    have rl := ra.length
    refine wpAny_assign_Tuple hr.1 hT (by rw [al.1, ← hl, ← rl]; simp) al.2 fun h' hx => ?_
    have k' : ∀ b o, s'.heap.get? b = some o → h'.get? b = some o := fun b o e => hx b o (Nat.ne_of_lt (Heap.lt_size e)) e
    have st' : Step X.g s' { s' with heap := h' } Φ' Φ' σ' σ' := Step.keeps (tk := s'.toks) c.step.ok k'
    have c' : CF X env' names s Φ σ cm μ ρ' { s' with heap := h' } Φ' σ' := ⟨c.step.trans st', let ⟨m, F⟩ := c.fr; ⟨m, F.step st'⟩⟩
    exact CF.assign_all eo he okS hC ht hμ hl ra c' fun h₁ tk c₁ k₁ => h h₁ tk c₁ fun b o hb e => k₁ b o hb (k' b o e)
end
section
variable {X : Cx} {n : Nat} {sc : Scope} {names : List Str}

theorem compLoop_any {prog : Program} {w : World} {A : Around} {R : Result → Shared → Prop} {s : Shared} {elt target iter : Expr} {ifs : List Expr} {scope : Scope} {pos : Pos} {it acc : Value} {env : Env} (I : Nat → Shared → Prop)
    (turn : ∀ n s, I n s → wpAny (model prog w) A (pyNext it) (fun r s₁ => match r with
      | none => R (.ok .next) s₁
      | some v => wpAny (model prog w) A (letOwnedTupleGo target it v) (fun xx s₁' => wpAny (model prog w) A (assign target env v) (fun xx s₂ =>
          wpAny (model prog w) A (forIn ifs true fun c r => if r = true then do let ok ← isTrue c env (eval c env); pure (ForInStep.yield ok) else pure (ForInStep.yield r)) (fun ok s₃ =>
            if ok = true then wpAny (model prog w) A (eval elt env) (fun x s₄ => wpAny (model prog w) A (call (.builtin "list.append") [acc, x]) (fun xx s₅ => ∃ m, m < n ∧ I m s₅) No s₄) No s₃
            else ∃ m, m < n ∧ I m s₃) No s₂) No s₁') No s₁) No s)
    (n : Nat) (h : I n s) : codeAny (model prog w) A (.compLoop (.ListComp elt [⟨target, iter, ifs, 0⟩] scope pos) 0 it acc env) R s := by
  refine codeAny_loop rfl I (fun n s hI => ?_) n h
  show wpAny _ A ((compTurn (.ListComp elt [⟨target, iter, ifs, 0⟩] scope pos) 0 it acc env).onRaise (fun x => do noteFrame x env; theTreesLotGoes x)) _ _ s
  refine wpAny_noted ?_
  rw [compTurn_list]
  refine wpAny_bind (wpAny_standAt (wpAny_bind (wpAny_mono (turn n s hI) (fun r s₁ h₁ => ?_) fun xx xx h => h.elim)))
  cases r with
  | none => exact wpAny_pure h₁
  | some v =>
    refine wpAny_bind (wpAny_mono h₁ (fun xx s₁' h₁' => ?_) fun xx xx h => h.elim)
    refine wpAny_bind (wpAny_mono h₁' (fun xx s₂ h₂ => ?_) fun xx xx h => h.elim)
    refine wpAny_bind (wpAny_mono h₂ (fun ok s₃ h₃ => ?_) fun xx xx h => h.elim)
    cases ok with
    | false => exact wpAny_bind (wpAny_pure (wpAny_pure ⟨rfl, h₃⟩))
    | true =>
      simp only [if_true] at h₃ ⊢
      exact wpAny_bind (wpAny_bind (wpAny_mono h₃ (fun x s₄ h₄ => wpAny_bind (wpAny_mono h₄ (fun xx s₅ h₅ => wpAny_pure (wpAny_pure ⟨rfl, h₅⟩)) fun xx xx h => h.elim)) fun xx xx h => h.elim))

noncomputable def rl (sc scope : Scope) : Scope :=
  { scope with names := scope.names.map fun (n, k) => if (k == .free && sc.kind == .function && sc.names.lookup n == some .cell) then (n, .cell) else (n, k) }
theorem rl_eq {env : Env} (he : env.scope = sc) (scope : Scope) : relabel scope env = rl sc scope := by
  subst he; rfl

noncomputable def clos (cells : List (Str × Addr)) : List (Str × NameKind) → List (Str × Addr) → List (Str × Addr)
  | [], acc => acc
  | (n, k) :: r, acc => if k == .free then clos cells r ((n, (cells.lookup n).getD 0) :: acc) else clos cells r acc

theorem clos_loop {env : Env} : ∀ (names : List (Str × NameKind)) (acc : List (Str × Addr)), (∀ x, (x, NameKind.free) ∈ names → (env.cells.lookup x).isSome = true) →
    (forIn names acc (fun x r => if (x.2 == NameKind.free) = true then (do let c ← cellOf env x.1; pure (ForInStep.yield ((x.1, c) :: r))) else pure (ForInStep.yield r)) : Sem (List (Str × Addr))) = pure (clos env.cells names acc)
  | [], acc, _ => by rw [List.forIn_nil]; rfl
  | (x, k) :: r, acc, h => by
    rw [List.forIn_cons]
    unfold clos
    by_cases hk : (k == NameKind.free) = true
    · have hk' : k = .free := by simpa using hk
      subst hk'
      obtain ⟨c, hc⟩ := Option.isSome_iff_exists.mp (h x (.head _))
      have e : cellOf env x = pure c := by unfold cellOf; rw [hc]
      simp only [hk, if_true, e, hc, Option.getD_some]
      exact clos_loop r _ fun y hy => h y (.tail _ hy)
    · simp only [hk]
      exact clos_loop r _ fun y hy => h y (.tail _ hy)

theorem closureFor_eq {env : Env} {scope : Scope} (h : ∀ x, (x, NameKind.free) ∈ scope.names → (env.cells.lookup x).isSome = true) : closureFor scope env = pure (clos env.cells scope.names []) := by
  unfold closureFor
  simp only []
  rw [clos_loop scope.names [] h]
  rfl

theorem clos_mem {cells : List (Str × Addr)} : ∀ (names : List (Str × NameKind)) (acc : List (Str × Addr)) (p : Str × Addr), p ∈ clos cells names acc → p ∈ acc ∨ ((p.1, NameKind.free) ∈ names ∧ p.2 = (cells.lookup p.1).getD 0)
  | [], acc, p, h => .inl h
  | (x, k) :: r, acc, p, h => by
    unfold clos at h
    by_cases hk : (k == NameKind.free) = true
    · rw [if_pos hk] at h
      have hk' : k = .free := by simpa using hk
      subst hk'
      rcases clos_mem r _ p h with h | ⟨h1, h2⟩
      · rcases List.mem_cons.mp h with h | h
        · subst h; exact .inr ⟨.head _, rfl⟩
        · exact .inl h
      · exact .inr ⟨.tail _ h1, h2⟩
    · rw [if_neg hk] at h
      rcases clos_mem r _ p h with h | ⟨h1, h2⟩
      · exact .inl h
      · exact .inr ⟨.tail _ h1, h2⟩

theorem clos_has {cells : List (Str × Addr)} : ∀ (names : List (Str × NameKind)) (acc : List (Str × Addr)) (x : Str), ((x, NameKind.free) ∈ names ∨ (acc.lookup x).isSome = true) → ((clos cells names acc).lookup x).isSome = true
  | [], acc, x, h => by
    rcases h with h | h
    · cases h
    · exact h
  | (y, k) :: r, acc, x, h => by
    unfold clos
    by_cases hk : (k == NameKind.free) = true
    · rw [if_pos hk]
      refine clos_has r _ x ?_
      rcases h with h | h
      · rcases List.mem_cons.mp h with h | h
        · cases h; exact .inr (by simp)
        · exact .inl h
      · refine .inr ?_
        rw [List.lookup_cons]
        cases x == y <;> simp [h]
    · rw [if_neg hk]
      refine clos_has r _ x ?_
      rcases h with h | h
      · rcases List.mem_cons.mp h with h | h
        · cases h; exact absurd rfl hk
        · exact .inl h
      · exact .inr h

theorem clos_pair {cells : List (Str × Addr)} : ∀ (names : List (Str × NameKind)) (acc : List (Str × Addr)), (acc.map (·.1) ++ names.map (·.1)).Nodup → ((clos cells names acc).map (·.1)).Nodup
  | [], acc, h => by simpa [clos] using h
  | (y, k) :: r, acc, h => by
    unfold clos
    by_cases hk : (k == NameKind.free) = true
    · rw [if_pos hk]
      refine clos_pair r _ ?_
      simp only [List.map_cons, List.cons_append]
      have h' : (acc.map (·.1) ++ y :: r.map (·.1)).Nodup := by simpa using h
      exact (List.perm_middle.nodup_iff).mp h'
    · rw [if_neg hk]
      refine clos_pair r acc ?_
      have h' : (acc.map (·.1) ++ y :: r.map (·.1)).Nodup := by simpa using h
      have := (List.perm_middle.nodup_iff).mp h'
      exact (List.nodup_cons.mp this).2

structure CompOk (sc scope : Scope) (names : List Str) (is : List Nat) : Prop where
  kind : scope.kind = .function
  nodup : (scope.names.map (·.1)).Nodup
  nocell : ∀ y ∈ scope.names, y.2 ≠ .cell
  free : ∀ x, (x, NameKind.free) ∈ scope.names → sc.names.lookup x = some .cell ∨ sc.names.lookup x = some .free
  loc : ∀ x, (x, NameKind.local) ∈ scope.names → x ∈ names → ∃ i ∈ is, names[i]? = some x

theorem lookup_of_mem {α : Type} : ∀ {l : List (Str × α)} {n : Str} {c : α}, (l.map (·.1)).Nodup → (n, c) ∈ l → l.lookup n = some c
  | (k, v) :: r, n, c, nd, h => by
    simp only [List.map_cons, List.nodup_cons] at nd
    rw [List.lookup_cons]
    rcases List.mem_cons.mp h with h | h
    · cases h; simp
    · have : n ≠ k := fun e => nd.1 (e ▸ List.mem_map.mpr ⟨(n, c), h, rfl⟩)
      rw [beq_eq_false_iff_ne.mpr this]
      exact lookup_of_mem nd.2 h

theorem rl_lookup {sc scope : Scope} (nd : (scope.names.map (·.1)).Nodup) (x : Str) : (rl sc scope).names.lookup x = (scope.names.lookup x).map fun k => if (k == .free && sc.kind == .function && sc.names.lookup x == some .cell) then .cell else k := by
  show (scope.names.map fun (n, k) => if (k == NameKind.free && sc.kind == .function && sc.names.lookup n == some .cell) then (n, NameKind.cell) else (n, k)).lookup x = _
  clear nd
  induction scope.names with
  | nil => rfl
  | cons p r ih =>
    obtain ⟨y, k⟩ := p
    rw [List.map_cons, List.lookup_cons (as := r)]
    by_cases hc : (k == NameKind.free && sc.kind == .function && sc.names.lookup y == some .cell) = true
    · simp only [hc, if_true]
      rw [List.lookup_cons]
      cases hxy : x == y with
      | false => exact ih
      | true =>
        have : x = y := by simpa using hxy
        subst this
        simp only [Option.map_some, hc, if_true]
    · have hc' : (k == NameKind.free && sc.kind == .function && sc.names.lookup y == some .cell) = false := by simpa using hc
      simp only [hc', Bool.false_eq_true, if_false]
      rw [List.lookup_cons]
      cases hxy : x == y with
      | false => exact ih
      | true =>
        have : x = y := by simpa using hxy
        subst this
        simp only [Option.map_some, hc', Bool.false_eq_true, if_false]
end
section
variable {X : Cx} {n : Nat} {sc : Scope} {names : List Str}

noncomputable def CondOk (X : Cx) (n : Nat) (sc' : Scope) (names : List Str) (ifs : List Expr) (cond : Option E) : Prop :=
  (ifs = [] ∧ cond = none) ∨ ∃ c ec, ifs = [c] ∧ cond = some ec ∧ ST X n sc' names c ec

theorem env_comp {env : Env} {scope : Scope} {cl : List (Str × Addr)} {C : Addr} (he : env.scope = sc) (eo : EnvOk env) (hk : scope.kind = .function) : EnvOk (compEnvC scope cl C env) ∧ (compEnvC scope cl C env).scope = rl sc scope :=
  ⟨⟨hk, eo.glob, eo.blt⟩, rl_eq he scope⟩

theorem comp_core {elt target iter : Expr} {ifs : List Expr} {scope : Scope} {pos p : Pos} {e : E} {is : List Nat} {it : It} {cond : Option E} (hco : CompOk sc scope names is) (ht : TgtOkL names (rl sc scope) target is)
    (hit : SI X n sc names target iter it is.length) (helt : SE X n (rl sc scope) names elt e) (hcond : CondOk X n (rl sc scope) names ifs cond) (hs : notSet iter = true) {env : Env} {A : Around} {s : Shared} {Φ : Fz} {ρ : List MV} {σ : Sg}
    {Q : List D → Sg → Prop} {use : Option (Value → Sem Unit)} {K : Value → Shared → Prop} (he : env.scope = sc) (eo : EnvOk env) (hr : Room n A) (ok : Ok X.g σ Φ s.heap) (F : Frame X.g env names ρ σ Φ s.heap) (h : mL X n (.comp e is it cond) ρ σ Q)
    (fin : ∀ Dd C vs ds σ' Φ' s', Step X.g s s' Φ Φ' σ σ' → s.heap.get? Dd = none → s.heap.get? C = none → Dd ≠ C → s'.heap.PlainList Dd vs → σ' Dd = none → Φ' Dd = none → σ' C = none → Φ' C = none → (∃ m, s'.heap.Ns C m) → RdAll Φ' vs.toList ds → Q ds σ' →
      compPost (model X.prog X.w) A No use K (.ref Dd) C (.ok .next) s') :
    wpAny (model X.prog X.w) A (comprehension (.ListComp elt [⟨target, iter, ifs, 0⟩] scope pos) scope env p (newList []) false (eval iter env) use) K No s := by
  obtain ⟨m₀, cm, μ, F⟩ := F
  have hcells : ∀ x, (x, NameKind.free) ∈ scope.names → (env.cells.lookup x).isSome = true := fun x hx => by
    refine F.hasCell x ?_
    rw [Env.kindOf_sc he]
    exact hco.free x hx
  have hcl := closureFor_eq (env := env) hcells
  generalize hclv : clos env.cells scope.names [] = cl at hcl
  have clmem : ∀ x c, (x, c) ∈ cl → (x, NameKind.free) ∈ scope.names ∧ env.cells.lookup x = some c := fun x c hx => by
    rw [← hclv] at hx
    rcases clos_mem scope.names [] (x, c) hx with h | ⟨h1, h2⟩
    · cases h
    · obtain ⟨c', hc'⟩ := Option.isSome_iff_exists.mp (hcells x h1)
      simp only [hc', Option.getD_some] at h2
      exact ⟨h1, by rw [hc', h2]⟩
  refine wpAny_comprehension_free rfl (folded_id hs) hcl hco.kind (fun x hx hl => lookup_of_mem hco.nodup (by rw [← hl]; exact hx)) ?_
  refine wpAny_mono (hit env A s Φ ρ σ _ he eo hr ok ⟨m₀, cm, μ, F⟩ h) (fun xv s₁ h₁ => wpAny_mono h₁ (fun itv s₂ h₂ => ?_) fun xx xx h => h.elim) fun xx xx h => h.elim
  obtain ⟨rows, σ₁, Φ₁, st, ⟨hrows, q⟩, hrl, Ia, fp, wr, St, rfl, fd⟩ := h₂
  refine wpAny_newObj_type (wpAny_newFunctionEnv hco.nocell (by intro y hy; simp at hy) (fun h₁ hns₁ hsb₁ => ?_) hco.kind)
  dsimp only at hns₁ hsb₁ ⊢
  generalize hH2 : s₂.heap.push { cls := .type "list", dict := none, data := .seq ([] : List Value).toArray } = H2 at hns₁ hsb₁ ⊢
  have hCs : H2.objs.size = s₂.heap.objs.size + 1 := by rw [← hH2, Heap.size_push]
  have hDC : s₂.heap.objs.size ≠ H2.objs.size := by rw [hCs]; exact Nat.ne_of_lt (Nat.lt_succ_self _)
  -- the accumulated list, the comprehension's frame
  have old : ∀ b o, s₂.heap.get? b = some o → h₁.get? b = some o := fun b o e => by
    have hb := Heap.lt_size e
    exact hsb₁.extBut b o (by rw [hCs]; exact Nat.ne_of_lt (Nat.lt_succ_of_lt hb)) (Heap.get?_push_of_some _ (hH2 ▸ Heap.get?_push_of_some _ e))
  have hacc : h₁.PlainList s₂.heap.objs.size #[] := ⟨_, hsb₁.extBut _ _ hDC (Heap.get?_push_of_some _ (hH2 ▸ Heap.get?_push_size _ rfl))⟩
  have hDn : s₂.heap.get? s₂.heap.objs.size = none := size_none _
  have hCn : s₂.heap.get? H2.objs.size = none := by
    cases e : s₂.heap.get? H2.objs.size with
    | none => rfl
    | some o => have := Heap.lt_size e; rw [hCs] at this; exact absurd this (Nat.not_lt.mpr (Nat.le_succ _))
  have hDs : s.heap.get? s₂.heap.objs.size = none := st.live _ hDn
  have hCs' : s.heap.get? H2.objs.size = none := st.live _ hCn
  have stk : Step X.g s₂ { s₂ with heap := h₁, toks := s₂.toks + 0 } Φ₁ Φ₁ σ₁ σ₁ := Step.keeps st.ok old
  have st₁ := st.trans stk
  have F₂ := F.step st₁
  have own_old : ∀ a, Own env μ a → ∃ o, s.heap.get? a = some o := fun a ha => by
    rcases ha with ha | ⟨n, ha⟩ | ⟨j, ha⟩
    · subst ha; obtain ⟨o, _, _, ho, _⟩ := F.ns; exact ⟨o, ho⟩
    · exact F.cellsIn n a ha
    · exact F.live j a ha
  obtain ⟨eo', he'⟩ := env_comp (cl := cl) (C := H2.objs.size) he eo hco.kind
  generalize henv : compEnvC scope cl H2.objs.size env = env' at eo' he'
  have hloc' : env'.locals = H2.objs.size := by rw [← henv]; rfl
  have hcl' : env'.cells = cl := by rw [← henv]; rfl
  have kind' : ∀ x, env'.kindOf x = (scope.names.lookup x).map fun k => if (k == .free && sc.kind == .function && sc.names.lookup x == some .cell) then .cell else k := fun x => by
    rw [Env.kindOf_sc he', rl_lookup hco.nodup]
  -- the comprehension's own names and what it sees of the outer ones
  let μ' : Nat → Option Addr := fun j => if j ∈ is then none else μ j
  have own' : ∀ a, Own env' μ' a → a = H2.objs.size ∨ Own env μ a := fun a ha => by
    rcases ha with ha | ⟨x, ha⟩ | ⟨j, ha⟩
    · exact .inl (ha.trans hloc')
    · rw [hcl'] at ha
      exact .inr (.inr (.inl ⟨x, mem_of_lookup (clmem x a ha).2⟩))
    · by_cases q : j ∈ is
      · simp only [μ', if_pos q] at ha; cases ha
      · simp only [μ', if_neg q] at ha
        exact .inr (.inr (.inr ⟨j, ha⟩))
  have hgC : X.g.get? H2.objs.size = none := by
    cases e : X.g.get? H2.objs.size with
    | none => rfl
    | some o => have := (ok.base _ o e).1; rw [hCs'] at this; cases this
  have F' : FrameX X.g env' names (unbAll ρ is) σ₁ Φ₁ h₁ (fun x => ([] : List (Str × Value)).reverse.lookup x) cm μ' := {
    nd := F.nd
    len := by rw [unbAll_len]; exact F.len
    ns := by rw [hloc']; exact hns₁
    cell := fun x c hc => by
      rw [hcl'] at hc
      exact F₂.cell x c (clmem x c (mem_of_lookup hc)).2
    cellsIn := fun x c hc => by
      rw [hcl'] at hc
      exact F₂.cellsIn x c (mem_of_lookup (clmem x c hc).2)
    hasCell := fun x hx => by
      rw [hcl', ← hclv]
      refine clos_has _ _ x (.inl ?_)
      rw [kind'] at hx
      cases e : scope.names.lookup x with
      | none => rw [e] at hx; rcases hx with hx | hx <;> cases hx
      | some k =>
        rw [e] at hx
        cases k with
        | free => exact mem_of_lookup e
        | cell => exact absurd rfl (hco.nocell _ (mem_of_lookup e))
        | «local» => rcases hx with hx | hx <;> simp at hx
        | globalImplicit => rcases hx with hx | hx <;> simp at hx
        | globalExplicit => rcases hx with hx | hx <;> simp at hx
    apart := by
      rw [hcl']
      have nd : (cl.map (·.1)).Nodup := by rw [← hclv]; exact clos_pair scope.names [] (by simpa using hco.nodup)
      rw [List.nodup_iff_pairwise_ne, List.pairwise_map] at nd
      refine List.Pairwise.imp_of_mem ?_ nd
      intro a b ha hb hne hab
      exact hne (name_of_addr F.apart (mem_of_lookup (clmem a.1 a.2 ha).2) (by rw [hab]; exact mem_of_lookup (clmem b.1 b.2 hb).2))
    offc := fun x c hc => by
      rw [hcl'] at hc
      rw [hloc']
      intro q
      obtain ⟨o, ho⟩ := F.cellsIn x c (mem_of_lookup (clmem x c hc).2)
      rw [q, hCs'] at ho; cases ho
    priv := fun a ha => by
      rcases own' a ha with q | q
      · subst q; exact ⟨st.ok.freshS hCn, st.ok.freshF hCn, hgC⟩
      · exact F₂.priv a q
    vars := fun j y hj hacc => by
      by_cases q : j ∈ is
      · rw [unbAll_in is ρ j q]
        show μ' j = none
        simp only [μ', if_pos q]
      · have e1 : (unbAll ρ is).getD j .unb = ρ.getD j .unb := by simp only [List.getD, unbAll_out is ρ j q]
        rw [e1]
        have e2 : μ' j = μ j := by simp only [μ', if_neg q]
        rw [e2]
        -- the name is free in the comprehension
        have hfree : scope.names.lookup y = some .free := by
          have hacc' := hacc
          unfold acc at hacc'
          rw [kind'] at hacc'
          cases e : scope.names.lookup y with
          | none => rw [e] at hacc'; rcases hacc' with h | h | h <;> cases h
          | some k =>
            rw [e] at hacc'
            cases k with
            | free => rfl
            | cell => exact absurd rfl (hco.nocell _ (mem_of_lookup e))
            | «local» =>
              obtain ⟨i, hi, hi'⟩ := hco.loc y (mem_of_lookup e) (List.mem_of_getElem? hj)
              exact absurd (names_inj F.nd hj hi' ▸ hi) q
            | globalImplicit => rcases hacc' with h | h | h <;> simp at h
            | globalExplicit => rcases hacc' with h | h | h <;> simp at h
        have hout := hco.free y (mem_of_lookup hfree)
        have hao : acc env y := by
          unfold acc
          rw [Env.kindOf_sc he]
          exact .inr hout
        have v := F₂.vars j y hj hao
        have l1 : look env m₀ cm y = cm y := by
          unfold look
          rw [Env.kindOf_sc he]
          rcases hout with h | h <;> rw [h]
        have l2 : look env' (fun x => ([] : List (Str × Value)).reverse.lookup x) cm y = cm y := by
          unfold look
          have : env'.kindOf y = some .cell ∨ env'.kindOf y = some .free := by
            rw [kind', hfree]
            simp only [Option.map_some]
            split
            · exact .inl rfl
            · exact .inr rfl
          rcases this with h | h <;> rw [h]
        rw [l2, ← l1]
        exact v
    inj := fun j k a ej ek => by
      by_cases qj : j ∈ is
      · simp only [μ', if_pos qj] at ej; cases ej
      · by_cases qk : k ∈ is
        · simp only [μ', if_pos qk] at ek; cases ek
        · simp only [μ', if_neg qj] at ej
          simp only [μ', if_neg qk] at ek
          exact F.inj j k a ej ek
    offm := fun j a e => by
      by_cases q : j ∈ is
      · simp only [μ', if_pos q] at e; cases e
      · simp only [μ', if_neg q] at e
        refine ⟨fun z => ?_, fun x z => ?_⟩
        · rw [hloc'] at z
          obtain ⟨o, ho⟩ := F.live j a e
          rw [z, hCs'] at ho; cases ho
        · rw [hcl'] at z
          exact (F.offm j a e).2 x (mem_of_lookup (clmem x a z).2)
    live := fun j a e => by
      by_cases q : j ∈ is
      · simp only [μ', if_pos q] at e; cases e
      · simp only [μ', if_neg q] at e
        exact F₂.live j a e }
  have ownS : ∀ a, Own env' μ' a → a ≠ H2.objs.size → ∃ o, s.heap.get? a = some o := fun a ha hne => by
    rcases own' a ha with q | q
    · exact absurd q hne
    · exact own_old a q
  have hμ' : ∀ i ∈ is, μ' i = none := fun i hi => by simp only [μ', if_pos hi]
  have hCl : s.heap.get? env'.locals = none := by rw [hloc']; exact hCs'
  have hDown : ¬ Own env' μ' s₂.heap.objs.size := fun ho => by
    obtain ⟨o, e⟩ := ownS _ ho hDC
    rw [hDs] at e; cases e
  -- the iterator's objects
  have fpC : ∀ b ∈ fp, b ≠ H2.objs.size ∧ b ≠ s₂.heap.objs.size := fun b hb => by
    obtain ⟨o, ho⟩ := fd.inn b hb
    exact ⟨fun q => (by rw [q, hCn] at ho; cases ho), fun q => (by rw [q, hDn] at ho; cases ho)⟩
  have wrS : ∀ b ∈ wr, s.heap.get? b = none := fun b hb => (fd.wnew b hb).1
  have wrOwn : ∀ b ∈ wr, ¬ Own env' μ' b := fun b hb ho => by
    obtain ⟨o, e⟩ := ownS b ho (fpC b (fd.sub b hb)).1
    rw [wrS b hb] at e; cases e
  let Iv : Nat → Shared → Prop := fun k s' => ∃ j σ' Φ' ys ds, CF X env' names s Φ σ cm μ' (unbAll ρ is) s' Φ' σ' ∧ Fz.le Φ₁ Φ' ∧ s'.heap.PlainList s₂.heap.objs.size ys ∧ RdAll Φ' ys.toList ds ∧ σ' s₂.heap.objs.size = none ∧ Φ' s₂.heap.objs.size = none ∧
    (∀ b ∈ fp, (∃ o, Φ₁ b = some o) ∨ (∃ o, s'.heap.get? b = some o) ∧ σ' b = none ∧ Φ' b = none) ∧ (∀ b ∈ wr, σ' b = none ∧ Φ' b = none) ∧ St j s'.heap ∧ ds.length ≤ j ∧
    compT (mCond X n cond) (e X n) ρ is (rows.drop j) σ' (fun rest σ => Q (ds ++ rest) σ) ∧ j ≤ rows.length ∧ k = rows.length + 1 - j
  have start : Iv (rows.length + 1) { s₂ with heap := h₁, toks := s₂.toks + 0 } := by
    refine ⟨0, σ₁, Φ₁, #[], [], ⟨st₁, _, F'⟩, Fz.le.refl _, hacc, .nil, st.ok.freshS hDn, st.ok.freshF hDn, fun b hb => ?_, fun b hb => (fd.wnew b hb).2, fd.frame _ _ _ fd.st0 fun b xx o e => old b o e, Nat.le_refl _, by simpa using q, Nat.zero_le _, rfl⟩
    cases e : Φ₁ b with
    | some o => exact .inl ⟨o, rfl⟩
    | none =>
      obtain ⟨o, ho⟩ := fd.inn b hb
      rcases fd.new b hb with h | h
      · exact absurd e h
      · exact .inr ⟨⟨o, old b o ho⟩, h.2.1, rfl⟩
  have loop : ∀ s₄ : Shared, s₄ = { s₂ with heap := h₁, toks := s₂.toks + 0 } →
      codeAny (model X.prog X.w) A (.compLoop (.ListComp elt [⟨target, iter, ifs, 0⟩] scope pos) 0 (.ref Ia) (.ref s₂.heap.objs.size) env') (compPost (model X.prog X.w) A No use K (.ref s₂.heap.objs.size) H2.objs.size) s₄ := by
    rintro s₄ rfl
    refine compLoop_any Iv ?_ (rows.length + 1) start
    rintro k s' ⟨j, σ', Φ', ys, ds, c, le', hpl, hrd, hD1, hD2, hfp, hwr, hst, hlen, q', hj, rfl⟩
    by_cases hlt : j < rows.length
    · have hrow : rows[j]? = some rows[j] := List.getElem?_eq_getElem hlt
      have hrlen := hrl _ (List.getElem_mem hlt)
      have hdrop : rows.drop j = rows[j] :: rows.drop (j + 1) := List.drop_eq_getElem_cons hlt
      rw [hdrop] at q'
      simp only [compT] at q'
      refine wpAny_mono (fd.next j s' (fun v s₂' => wpAny (model X.prog X.w) A (assign target env' v) (fun xx s₃ =>
          wpAny (model X.prog X.w) A (forIn ifs true fun c r => if r = true then do let ok ← isTrue c env' (eval c env'); pure (ForInStep.yield ok) else pure (ForInStep.yield r)) (fun ok s₃ =>
            if ok = true then wpAny (model X.prog X.w) A (eval elt env') (fun x s₄ => wpAny (model X.prog X.w) A (call (.builtin "list.append") [.ref s₂.heap.objs.size, x]) (fun xx s₅ => ∃ m, m < rows.length + 1 - j ∧ Iv m s₅) No s₄) No s₃
            else ∃ m, m < rows.length + 1 - j ∧ Iv m s₃) No s₃) No s₂') rows[j] hrow hst fun v ha tka hG hsta hka => ?_) (by rintro r s₁ ⟨v, rfl, hv⟩; exact hv) fun xx xx h => h.elim
      -- the iterator has moved
      have ca : CF X env' names s Φ σ cm μ' (unbAll ρ is) { s' with heap := ha, toks := tka } Φ' σ' := by
        obtain ⟨m, Fm⟩ := c.fr
        exact ⟨c.step.write ok (W := wr) (fun b hb => ⟨wrS b hb, hwr b hb⟩) hka, m, Fm.kept fun a o hao e => hka a o (fun q => wrOwn a q hao) e⟩
      have hDwr : s₂.heap.objs.size ∉ wr := fun q => (fpC _ (fd.sub _ q)).2 rfl
      have hpla : ha.PlainList s₂.heap.objs.size ys := hpl.at fun o e => hka _ o hDwr e
      refine ca.assign_got hr eo' he' ok hCl ht hμ' hrlen (hG.mono le') fun hb tkb cb kb => ?_
      rw [setAll_unb hrlen] at cb
      rw [hloc'] at kb
      have stb : St (j + 1) hb := fd.frame _ _ _ hsta fun b hbm o e => kb b o (fpC b hbm).1 e
      have hplb : hb.PlainList s₂.heap.objs.size ys := hpla.at fun o e => kb _ o hDC e
      have alive_a : ∀ b ∈ fp, (∃ o, s'.heap.get? b = some o) → ∃ o, hb.get? b = some o := fun b hbm hex => by
        by_cases hw : b ∈ wr
        · obtain ⟨o, ho⟩ := fd.live _ _ hsta b hw
          exact ⟨o, kb b o (fpC b hbm).1 ho⟩
        · obtain ⟨o, ho⟩ := hex
          exact ⟨o, kb b o (fpC b hbm).1 (hka b o hw ho)⟩
      -- after any evaluation the iterator stands as it stood
      have fwd : ∀ (s₃ : Shared) Φ₃ σ₃, Step X.g { s' with heap := hb, toks := tkb } s₃ Φ' Φ₃ σ' σ₃ → St (j + 1) s₃.heap ∧ s₃.heap.PlainList s₂.heap.objs.size ys ∧ σ₃ s₂.heap.objs.size = none ∧ Φ₃ s₂.heap.objs.size = none ∧
          (∀ b ∈ fp, (∃ o, Φ₁ b = some o) ∨ (∃ o, s₃.heap.get? b = some o) ∧ σ₃ b = none ∧ Φ₃ b = none) ∧ (∀ b ∈ wr, σ₃ b = none ∧ Φ₃ b = none) := by
        intro s₃ Φ₃ σ₃ x
        have hDb : ∃ o, hb.get? s₂.heap.objs.size = some o := let ⟨k, e⟩ := hplb; ⟨_, e⟩
        obtain ⟨oD, hoD⟩ := hDb
        refine ⟨fd.frame _ _ _ stb fun b hbm o ho => ?_, hplb.at fun o ho => x.keep _ o ho hD1, x.outS (o := oD) hoD hD1, x.outF (o := oD) hoD hD1 hD2, fun b hbm => ?_, fun b hbm => ?_⟩
        · rcases hfp b hbm with ⟨o', ho'⟩ | ⟨_, h1, _⟩
          · exact x.keep b o ho (cb.step.ok.frz b o' (le' b o' ho')).2
          · exact x.keep b o ho h1
        · rcases hfp b hbm with hf | ⟨hex, h1, h2⟩
          · exact .inl hf
          · obtain ⟨o, ho⟩ := alive_a b hbm hex
            exact .inr ⟨⟨o, x.keep b o ho h1⟩, x.outS (o := o) ho h1, x.outF (o := o) ho h1 h2⟩
        · obtain ⟨o, ho⟩ := fd.live _ _ stb b hbm
          exact ⟨x.outS (o := o) ho (hwr b hbm).1, x.outF (o := o) ho (hwr b hbm).1 (hwr b hbm).2⟩
      have frb : Frame X.g env' names (setAll ρ is rows[j]) σ' Φ' hb := let ⟨m, Fm⟩ := cb.fr; ⟨m, cm, μ', Fm⟩
      -- back to the state between the turns
      have back : ∀ (s₃ : Shared) Φ₃ σ₃, CF X env' names s Φ σ cm μ' (setAll ρ is rows[j]) s₃ Φ₃ σ₃ → CF X env' names s Φ σ cm μ' (unbAll ρ is) s₃ Φ₃ σ₃ := by
        rintro s₃ Φ₃ σ₃ ⟨x, m, Fm⟩
        refine ⟨x, m, Fm.weaken (by rw [unbAll_len, setAll_len]) fun i => ?_⟩
        by_cases hi : i ∈ is
        · exact .inr ⟨unbAll_in is ρ i hi, hμ' i hi⟩
        · exact .inl (by simp only [List.getD, unbAll_out is ρ i hi, setAll_out is rows[j] ρ i hi])
      have stepF : ∀ (s₃ : Shared) Φ₃ σ₃, Step X.g { s' with heap := hb, toks := tkb } s₃ Φ' Φ₃ σ' σ₃ → CF X env' names s Φ σ cm μ' (setAll ρ is rows[j]) s₃ Φ₃ σ₃ := fun s₃ Φ₃ σ₃ x =>
        ⟨cb.step.trans x, let ⟨m, Fm⟩ := cb.fr; ⟨m, Fm.step x⟩⟩
      -- the element and its place in the list
      have tail : ∀ (s₃ : Shared) Φ₃ σ₃, Step X.g { s' with heap := hb, toks := tkb } s₃ Φ' Φ₃ σ' σ₃ →
          (mEval X n e (setAll ρ is rows[j]) σ₃ fun d σ => compT (mCond X n cond) (e X n) ρ is (rows.drop (j + 1)) σ fun rest σ => Q (ds ++ d :: rest) σ) →
          wpAny (model X.prog X.w) A (eval elt env') (fun x s₄ => wpAny (model X.prog X.w) A (call (.builtin "list.append") [.ref s₂.heap.objs.size, x]) (fun xx s₅ => ∃ m, m < rows.length + 1 - j ∧ Iv m s₅) No s₄) No s₃ := by
        intro s₃ Φ₃ σ₃ x qe
        refine wpAny_mono (helt env' A s₃ Φ₃ _ σ₃ _ he' eo' hr x.ok (Frame.step frb x) qe) ?_ fun xx xx h => h.elim
        rintro y s₄ ⟨d, σ₄, Φ₄, x₄, ry, q₄⟩
        have xx := x.trans x₄
        obtain ⟨stc, hplc, h1, h2, h3, h4⟩ := fwd s₄ Φ₄ σ₄ xx
        have hys := hrd.length
        simp only [Array.length_toList] at hys
        refine wpAny_list_append_plain hplc (fun h₅ hl₅ hs₅ => ?_) (le_size hys hlen hlt hrows)
        have c₄ := back s₄ Φ₄ σ₄ (stepF s₄ Φ₄ σ₄ xx)
        refine ⟨rows.length + 1 - (j + 1), meas_lt hlt, j + 1, σ₄, Φ₄, ys.push y, ds ++ [d], ⟨c₄.step.write (tk := s₄.toks) ok (W := [s₂.heap.objs.size]) (fun b hbm => ?_) fun b o hbm ho => (hs₅.2 b (by simpa using hbm)).trans ho, ?_⟩, le'.trans (x.mono.trans x₄.mono), hl₅,
          by simpa using (hrd.mono (x.mono.trans x₄.mono)).append (.one ry), h1, h2, fun b hbm => ?_, h4, fd.frame _ _ _ stc fun b hbm o ho => (hs₅.2 b (fpC b hbm).2).trans ho, by rw [List.length_append]; exact Nat.succ_le_succ hlen, by simpa using q₄, hlt, rfl⟩
        · have : b = s₂.heap.objs.size := by simpa using hbm
          subst this
          exact ⟨hDs, h1, h2⟩
        · obtain ⟨m, Fm⟩ := c₄.fr
          exact ⟨m, Fm.kept fun a o hao ho => (hs₅.2 a fun q => hDown (q ▸ hao)).trans ho⟩
        · rcases h3 b hbm with hf | ⟨⟨o, ho⟩, h5, h6⟩
          · exact .inl hf
          · exact .inr ⟨⟨o, (hs₅.2 b (fpC b hbm).2).trans ho⟩, h5, h6⟩
      have skip : ∀ (s₃ : Shared) Φ₃ σ₃, Step X.g { s' with heap := hb, toks := tkb } s₃ Φ' Φ₃ σ' σ₃ →
          (compT (mCond X n cond) (e X n) ρ is (rows.drop (j + 1)) σ₃ fun rest σ => Q (ds ++ rest) σ) → ∃ m, m < rows.length + 1 - j ∧ Iv m s₃ := by
        intro s₃ Φ₃ σ₃ x qe
        obtain ⟨stc, hplc, h1, h2, h3, h4⟩ := fwd s₃ Φ₃ σ₃ x
        exact ⟨rows.length + 1 - (j + 1), meas_lt hlt, j + 1, σ₃, Φ₃, ys, ds, back s₃ Φ₃ σ₃ (stepF s₃ Φ₃ σ₃ x), le'.trans x.mono, hplc, hrd.mono x.mono, h1, h2, h3, h4, stc, Nat.le_succ_of_le hlen, qe, hlt, rfl⟩
      rcases hcond with ⟨rfl, rfl⟩ | ⟨c₁, ec, rfl, rfl, hst₁⟩
      · refine wpAny_tests_nil ?_
        simp only [mCond, condT, D.onBool, if_true] at q' ⊢
        exact tail _ Φ' σ' (Step.refl cb.step.ok) q'
      · refine wpAny_tests_one ?_
        simp only [mCond] at q'
        refine wpAny_mono (hst₁ env' A _ Φ' _ σ' _ _ he' eo' hr cb.step.ok frb (fun xx xx h => D.bool_of h) q') ?_ fun xx xx h => h.elim
        rintro b s₃ ⟨σ₃, Φ₃, x, qb⟩
        cases b with
        | true => exact tail s₃ Φ₃ σ₃ x qb
        | false => exact skip s₃ Φ₃ σ₃ x qb
    · have hje : j = rows.length := eq_of_ge hlt hj
      subst hje
      simp only [List.drop_length, compT, List.append_nil] at q'
      refine wpAny_mono (fd.done s' (fun s₁ => compPost (model X.prog X.w) A No use K (.ref s₂.heap.objs.size) H2.objs.size (.ok .next) s₁) hst fun ha tka hka => ?_) (by rintro r s₁ ⟨rfl, h⟩; exact h) fun xx xx h => h.elim
      have hDwr : s₂.heap.objs.size ∉ wr := fun q => (fpC _ (fd.sub _ q)).2 rfl
      have sw : Step X.g s { s' with heap := ha, toks := tka } Φ Φ' σ σ' := c.step.write ok (W := wr) (fun b hb => ⟨wrS b hb, hwr b hb⟩) hka
      obtain ⟨m, Fm⟩ := c.fr
      have Fm' := Fm.kept (h' := ha) fun a o hao e => hka a o (fun q => wrOwn a q hao) e
      have pC := Fm.priv env'.locals (.inl rfl)
      rw [hloc'] at pC
      exact fin _ _ ys ds σ' Φ' _ sw hDs hCs' hDC (hpl.at fun o e => hka _ o hDwr e) hD1 hD2 pC.1 pC.2.1 ⟨m, by have := Fm'.ns; rw [hloc'] at this; exact this⟩ hrd q'
  have hst0 : St 0 h₁ := fd.frame _ _ _ fd.st0 fun b xx o e => old b o e
  rw [← henv] at loop
  exact codeAny_compStart_list (loop _ rfl) (wpAny_mono (fd.self { s₂ with heap := h₁, toks := s₂.toks + 0 } _ hst0 (loop _ rfl)) (fun xx xx h => h) fun xx xx h => h.elim)
end
section
variable {X : Cx} {n : Nat} {sc : Scope} {names : List Str}

theorem SL_comp {elt target iter : Expr} {ifs : List Expr} {scope : Scope} {pos : Pos} {e : E} {is : List Nat} {it : It} {cond : Option E} (hco : CompOk sc scope names is) (ht : TgtOkL names (rl sc scope) target is)
    (hit : SI X n sc names target iter it is.length) (helt : SE X n (rl sc scope) names elt e) (hcond : CondOk X n (rl sc scope) names ifs cond) (hs : notSet iter = true) :
    SL X n sc names (.ListComp elt [⟨target, iter, ifs, 0⟩] scope pos) (.comp e is it cond) := by
  intro env A s Φ ρ σ Q he eo hr ok F h
  rw [eval_ListComp]
  refine comp_core (use := none) hco ht hit helt hcond hs he eo hr ok F h ?_
  intro Dd C vs ds σ' Φ' s' st hD hC hDC hl h1 h2 h3 h4 ⟨m, hns⟩ hrd q
  refine ⟨m, hns, fun h' hsb => ⟨Dd, vs, ds, σ', Φ', rfl, ?_, hD, hl.at fun o e => (hsb.2 Dd hDC).trans e, h1, h2, hrd, q⟩⟩
  refine st.write (tk := s'.toks) ok (W := [C]) (fun b hb => ?_) fun b o hb ho => (hsb.2 b (by simpa using hb)).trans ho
  have : b = C := by simpa using hb
  subst this
  exact ⟨hC, h3, h4⟩

noncomputable def swapsB (sc : Scope) (scope : Scope) (y : Str) (py pos : Pos) : Bool :=
  sc.names.lookup y == some .local && py.line == pos.line && !(scope.names.any fun (n, k) => n == y && (k == .local || k == .cell))

theorem swaps_comp {elt : Expr} {gens : List Comprehension} {scope : Scope} {pos py : Pos} {y : Str} {l : Nat} {env : Env} (he : env.scope = sc) (eo : EnvOk env) :
    swapsWith (.ListComp elt gens scope pos) (some (.Name y py)) l env = pure (swapsB sc scope y py pos) := by
  have hb : env.blockKind = .function := by
    unfold Env.blockKind
    rw [eo.kind]; rfl
  show (pure (env.blockKind == .function && env.kindOf y == some .local && py.line == pos.line && !(scope.names.any fun (n, k) => n == y && (k == .local || k == .cell))) : Sem Bool) = _
  rw [hb, Env.kindOf_sc he]
  rfl

theorem SS_asgMC {elt target iter : Expr} {ifs : List Expr} {scope : Scope} {pos spos py : Pos} {y : Str} {i : Nat} {e : E} {is : List Nat} {it : It} {cond : Option E} (hi : names[i]? = some y) (hk : stS sc y = true) (hco : CompOk sc scope names is) (ht : TgtOkL names (rl sc scope) target is)
    (hit : SI X n sc names target iter it is.length) (helt : SE X n (rl sc scope) names elt e) (hcond : CondOk X n (rl sc scope) names ifs cond) (hs : notSet iter = true) :
    SS X n sc names (.Assign [.Name y py] (.ListComp elt [⟨target, iter, ifs, 0⟩] scope pos) spos) (.asgM i (.comp e is it cond)) := by
  by_cases hsw : swapsB sc scope y py pos = true
  · intro env A s B Φ₀ ρ σ Φ Q he eo hr I h
    rw [exec_Assign_Name_used _ _ _ _ (by rw [swaps_comp he eo, hsw])]
    refine wpAny_bind (wpAny_standAt (wpAny_bind ?_))
    show wpAny _ A (do let _ ← comprehension (.ListComp elt [⟨target, iter, ifs, 0⟩] scope pos) scope env _ (newList []) false (eval iter env) (some (assign (.Name y py) env))) _ _ s
    refine wpAny_bind (wpAny_mono (comp_core (use := some (assign (.Name y py) env)) (K := fun xx s' => Ex X env names B Φ₀ s Φ Q .next s') hco ht hit helt hcond hs he eo hr I.ok I.frame h ?_) (fun xx s' hq => wpAny_pure (wpAny_pure hq)) fun xx xx e => e)
    intro Dd C vs ds σ' Φ' s' st hD hC hDC hl h1 h2 h3 h4 ⟨mc, hns⟩ hrd q
    obtain ⟨m, cm, μ, F, hB⟩ := I.fr
    have none_of : ∀ a, s.heap.get? a = none → B a = none ∧ X.g.get? a = none ∧ Φ₀ a = none ∧ ∀ b, Own env μ b → b ≠ a := fun a hn => by
      have hold : ∀ o, s.heap.get? a ≠ some o := fun o e => by rw [hn] at e; cases e
      refine ⟨?_, ?_, ?_, fun b hb q => ?_⟩
      · cases e : B a with
        | none => rfl
        | some o => exact absurd (I.prot a o e).1 (hold o)
      · cases e : X.g.get? a with
        | none => rfl
        | some o => exact absurd (I.ok.base a o e).1 (hold o)
      · cases e : Φ₀ a with
        | none => rfl
        | some o => exact absurd (I.ok.frz a o (I.mono0 a o e)).1 (hold o)
      · subst q
        rcases hb with hb | ⟨n, hb⟩ | ⟨j, hb⟩
        · subst hb; obtain ⟨o, _, _, ho, _⟩ := F.ns; exact hold o ho
        · obtain ⟨o, ho⟩ := F.cellsIn n _ hb; exact hold o ho
        · obtain ⟨o, ho⟩ := F.live j _ hb; exact hold o ho
    obtain ⟨c1, c2, c3, c4⟩ := none_of C hC
    obtain ⟨d1, d2, d3, d4⟩ := none_of Dd hD
    have O : Ours X B Φ₀ [C] := ⟨fun b hb => by rw [List.mem_singleton.mp hb]; exact c3, fun b hb => by rw [List.mem_singleton.mp hb]; exact c2, fun b hb => by rw [List.mem_singleton.mp hb]; exact c1⟩
    have I₁ := (I.step st).toX (fpp := [C]) (F.step st) hB fun b hb => by
      rw [List.mem_singleton.mp hb]; exact ⟨fun ho => c4 C ho rfl, h3, h4⟩
    have al : ∀ b ∈ [C], ∃ o, s'.heap.get? b = some o := fun b hb => by
      rw [List.mem_singleton.mp hb]
      obtain ⟨o, _, _, ho, _⟩ := hns
      exact ⟨o, ho⟩
    have hB' : ∀ a, Own env μ a → Bx B [C] s'.heap a = none := fun a ha => by
      unfold Bx
      rw [if_neg (by simpa using c4 a ha)]
      exact hB a ha
    have hBD : Bx B [C] s'.heap Dd = none := by
      unfold Bx
      rw [if_neg (by simpa using hDC)]
      exact d1
    refine wpAny_assign_Name (I₁.storeM eo hi (st_of he hk) hl hrd (F.step st) hB' ⟨h1, h2, d2, fun q => d4 _ (.inl rfl) q.symm, fun n q => d4 Dd (.inr (.inl ⟨n, q⟩)) rfl, fun j xx q => d4 Dd (.inr (.inr ⟨j, q⟩)) rfl⟩ hBD fun s₂ hs₂ I₂ => ?_)
    obtain ⟨keepC, eqB⟩ := Bx_same al I₂
    have eC : s₂.heap.get? C = s'.heap.get? C := keepC C (by simp)
    refine ⟨mc, hns.at' fun o e => eC.trans e, fun h' hsb => ?_⟩
    rw [← eqB] at I₂
    have al₂ : ∀ b ∈ [C], ∃ o, s₂.heap.get? b = some o := fun b hb => by
      obtain ⟨o, ho⟩ := al b hb
      exact ⟨o, (keepC b hb).trans ho⟩
    have I₃ := (I₂.writeX O al₂ (W := [C]) (fun b hb => hb) fun b o hb ho => (hsb.2 b (by simpa using hb)).trans ho).ofX O
    obtain ⟨h₁, tk₁, rfl⟩ := st.same
    obtain ⟨h₂, tk₂, rfl⟩ := hs₂
    exact ⟨.next, _, σ', Φ', ⟨h', tk₂, rfl⟩, I₃, st.mono, trivial, q⟩
  · exact SS_asgM' hi hk (SL_comp hco ht hit helt hcond hs) fun env he eo => by
      rw [swaps_comp he eo]
      simp only [Bool.not_eq_true] at hsw
      rw [hsw]
end
section
variable {X : Cx} {n : Nat} {sc : Scope} {names : List Str}

theorem none_of_ge {h : Heap} {a : Addr} (hk : h.objs.size ≤ a) : h.get? a = none := by
  cases e : h.get? a with
  | none => rfl
  | some o => exact absurd (Heap.lt_size e) (Nat.not_lt.mpr hk)

theorem SI_seqT {x : Expr} {e : E} {elts : List Expr} {kk : Nat} {p : Pos} {k : Nat} (hk : k ≠ 1) (hx : SE X n sc names x e) : SI X n sc names (.Tuple elts kk p) x (.seq e) k := by
  intro env A s Φ ρ σ Q he eo hroom ok F h
  refine wpAny_mono (hx env A s Φ ρ σ _ he eo hroom ok F h) ?_ fun xx xx h => h.elim
  rintro v s₁ ⟨d, σ₁, Φ₁, st, r, q⟩
  replace q := seqT_of q
  obtain ⟨rows, hrows, q⟩ := q
  obtain ⟨rfl, hrl⟩ : d = .lst (rows.map D.tup) ∧ ∀ r ∈ rows, r.length = k := by
    cases hrows with
    | one _ h => exact absurd h hk
    | tup _ h => exact absurd h hk
    | many _ _ h => exact ⟨rfl, h⟩
  have hn := size_none s₁.heap
  obtain ⟨a, rfl⟩ := r.lst_ref
  obtain ⟨vs, hl, ra, hfa⟩ := r.isList st.ok
  have hlen := ra.length
  simp only [Array.length_toList, List.length_map] at hlen
  have ha : ∃ o, s₁.heap.get? a = some o := let ⟨o, ho, _⟩ := hl; ⟨o, ho⟩
  have hne : a ≠ s₁.heap.objs.size := fun q => by obtain ⟨o, ho⟩ := ha; rw [q, hn] at ho; cases ho
  -- the tuples
  have each : ∀ j, j < vs.size → ∃ T tv r, vs[j]? = some (.ref T) ∧ s₁.heap.IsTuple T tv ∧ rows[j]? = some r ∧ RdAll Φ₁ tv.toList r ∧ Φ₁ T ≠ none := fun j hj => by
    obtain ⟨d, hd, rd⟩ := ra.get' (k := j) (v := vs[j]) (by simp [hj])
    simp only [List.getElem?_map, Option.map_eq_some_iff] at hd
    obtain ⟨r, hr, rfl⟩ := hd
    obtain ⟨T, hT⟩ := rd.tup_ref
    rw [hT] at rd
    obtain ⟨tv, h1, h2, h3⟩ := rd.isTup st.ok
    exact ⟨T, tv, r, by rw [Array.getElem?_eq_getElem hj, hT], h1, hr, h2, h3⟩
  let Ts : Nat → Addr := fun j => match vs[j]? with | some (.ref T) => T | _ => 0
  have hTs : ∀ j T, vs[j]? = some (.ref T) → Ts j = T := fun j T e => by simp only [Ts, e]
  have ex : ∃ vals : Nat → Array Value, ∀ j, j < vs.size → s₁.heap.IsTuple (Ts j) (vals j) ∧ ∃ r, rows[j]? = some r ∧ RdAll Φ₁ (vals j).toList r := by
    have : ∀ j, ∃ tv : Array Value, j < vs.size → s₁.heap.IsTuple (Ts j) tv ∧ ∃ r, rows[j]? = some r ∧ RdAll Φ₁ tv.toList r := fun j => by
      by_cases hj : j < vs.size
      · obtain ⟨T, tv, r, h1, h2, h3, h4, _⟩ := each j hj
        exact ⟨tv, fun xx => ⟨by rw [hTs j T h1]; exact h2, r, h3, h4⟩⟩
      · exact ⟨#[], fun h => absurd h hj⟩
    exact ⟨fun j => Classical.choose (this j), fun j => Classical.choose_spec (this j)⟩
  obtain ⟨vals, hvals⟩ := ex
  have hTlive : ∀ j, j < vs.size → (∃ o, s₁.heap.get? (Ts j) = some o) ∧ Φ₁ (Ts j) ≠ none := fun j hj => by
    obtain ⟨T, tv, r, h1, ⟨o, ho, _⟩, h3, h4, h5⟩ := each j hj
    rw [hTs j T h1]
    exact ⟨⟨o, ho⟩, h5⟩
  refine wpAny_pyIter_list hl ?_
  have st₂ := push_step st.ok { cls := .type "list_iterator", data := .fields #[.ref a, .int 0 0] }
  have W := WalksU.listOfTuples (prog := X.prog) (w := X.w) hroom.1 s₁.heap.objs.size a hne vs Ts vals (fun j hj => by
      obtain ⟨T, tv, r, h1, _⟩ := each j hj
      rw [h1, hTs j T h1]) (fun j hj q => by
      obtain ⟨⟨o, ho⟩, _⟩ := hTlive j hj
      rw [q, hn] at ho; cases ho)
  have hrl' : rows.length = vs.size := hlen.symm
  refine ⟨rows, σ₁, Φ₁, st.trans st₂, q, hrl, s₁.heap.objs.size, s₁.heap.objs.size :: a :: (List.range vs.size).map Ts, [s₁.heap.objs.size], (fun j h => h.IsListIter s₁.heap.objs.size a j ∧ h.IsList a vs ∧ ∀ k, k < vs.size → h.IsTuple (Ts k) (vals k)), rfl, ?_⟩
  have mem : ∀ b ∈ (s₁.heap.objs.size :: a :: (List.range vs.size).map Ts), b = s₁.heap.objs.size ∨ ((∃ o, s₁.heap.get? b = some o) ∧ Φ₁ b ≠ none) := fun b hb => by
    rcases List.mem_cons.mp hb with rfl | hb
    · exact .inl rfl
    · rcases List.mem_cons.mp hb with rfl | hb
      · exact .inr ⟨ha, hfa⟩
      · obtain ⟨j, hj, rfl⟩ := List.mem_map.mp hb
        exact .inr (hTlive j (List.mem_range.mp hj))
  refine .ofWalksU (by rw [hrl']; exact W) ⟨⟨_, Heap.get?_push_size _ rfl, rfl, rfl⟩, hl.push _, fun k hk => (hvals k hk).1.push _⟩ (fun j v hj hv => ?_) (fun b hb => ?_) (fun b hb => ?_) (fun b hb => ?_) (fun j h hst b hb => ?_)
  · subst hv
    exact (hvals j (hrl' ▸ hj)).2
  · rcases mem b hb with rfl | ⟨⟨o, ho⟩, _⟩
    · exact ⟨_, Heap.get?_push_size _ rfl⟩
    · exact ⟨o, Heap.get?_push_of_some _ ho⟩
  · rcases mem b hb with rfl | ⟨_, hf⟩
    · exact .inr ⟨st.live _ hn, st.ok.freshS hn, st.ok.freshF hn⟩
    · exact .inl hf
  · rcases List.mem_cons.mp hb with rfl | hb
    · exact ⟨st.live _ hn, st.ok.freshS hn, st.ok.freshF hn⟩
    · cases hb
  · rcases List.mem_cons.mp hb with rfl | hb
    · obtain ⟨o, ho, _⟩ := hst.1; exact ⟨o, ho⟩
    · cases hb

theorem SI_enum {x : Expr} {e : E} {elts : List Expr} {kk : Nat} {p pf pos : Pos} (G : Gnd X) (hx : SE X n sc names x e) (hk : sc.names.lookup ("enumerate" : Str) = some .globalImplicit) (hs : notStar x = true) :
    SI X n sc names (.Tuple elts kk p) (.Call (.Name "enumerate" pf) [x] [] pos) (.enum e) 2 := by
  intro env A s Φ ρ σ Q he eo hroom ok F h
  refine call_blt1 (fv := .type "enumerate") G (by simp [bNames]) hx hk hs he eo hroom ok F h ?_
  intro v s₁ d σ₁ Φ₁ st r q
  obtain ⟨ds, rfl, _, q'⟩ := D.lst_of q
  obtain ⟨a, rfl⟩ := r.lst_ref
  obtain ⟨vs, hl, ra, hfa⟩ := r.isList st.ok
  have hlen := ra.length
  simp only [Array.length_toList] at hlen
  have ha : ∃ o, s₁.heap.get? a = some o := let ⟨o, ho, _⟩ := hl; ⟨o, ho⟩
  have hlt : a < s₁.heap.objs.size := let ⟨o, ho⟩ := ha; Heap.lt_size ho
  refine call_enumerate_list hl fun h' hen hit hsz hkeep => wpAny_pyIter_enum hen ?_
  have st₂ : Step X.g s₁ { s₁ with heap := h' } Φ₁ Φ₁ σ₁ σ₁ := Step.keeps st.ok hkeep
  have n0 : s₁.heap.get? s₁.heap.objs.size = none := size_none _
  have n1 : s₁.heap.get? (s₁.heap.objs.size + 1) = none := none_of_ge (Nat.le_succ _)
  have new : ∀ b, s₁.heap.get? b = none → s.heap.get? b = none ∧ σ₁ b = none ∧ Φ₁ b = none := fun b hb => ⟨st.live _ hb, st.ok.freshS hb, st.ok.freshF hb⟩
  have W := WalksT.enumerate (prog := X.prog) (w := X.w) hroom.1 (s₁.heap.objs.size + 1) s₁.heap.objs.size a (Nat.succ_ne_self _) (Nat.ne_of_lt (Nat.lt_succ_of_lt hlt)) (Nat.ne_of_lt hlt) vs
  have hrl : (ds.mapIdx fun (i : Nat) d => [D.int (i : Int), d]).length = vs.size := by simp [hlen]
  refine ⟨_, σ₁, Φ₁, st.trans st₂, q', fun r hr => ?_, s₁.heap.objs.size + 1, [s₁.heap.objs.size + 1, s₁.heap.objs.size, a], [s₁.heap.objs.size + 1, s₁.heap.objs.size],
    (fun i h => (∃ old, IsEnum h (s₁.heap.objs.size + 1) s₁.heap.objs.size i old) ∧ h.IsListIter s₁.heap.objs.size a i ∧ h.IsList a vs), rfl, ?_⟩
  · obtain ⟨j, hj, rfl⟩ := List.mem_mapIdx.mp hr
    rfl
  have mem : ∀ b ∈ [s₁.heap.objs.size + 1, s₁.heap.objs.size, a], (∃ o, h'.get? b = some o) ∧ (Φ₁ b ≠ none ∨ (s.heap.get? b = none ∧ σ₁ b = none ∧ Φ₁ b = none)) := fun b hb => by
    simp only [List.mem_cons, List.not_mem_nil, or_false] at hb
    rcases hb with rfl | rfl | rfl
    · exact ⟨⟨_, hen⟩, .inr (new _ n1)⟩
    · exact ⟨let ⟨o, ho, _⟩ := hit; ⟨o, ho⟩, .inr (new _ n0)⟩
    · exact ⟨let ⟨o, ho⟩ := ha; ⟨o, hkeep _ o ho⟩, .inl hfa⟩
  refine .ofWalksU (by rw [hrl]; exact W.toU) ⟨⟨_, hen⟩, hit, hl.at fun o e => hkeep _ o e⟩ (fun j v hj hv => ?_) (fun b hb => (mem b hb).1) (fun b hb => (mem b hb).2) (fun b hb => ?_) (fun j h hst b hb => ?_)
  · obtain ⟨t, x, hx, rfl⟩ := hv
    obtain ⟨d, hd, r⟩ := ra.get' (k := j) (v := x) (by simpa using hx)
    exact ⟨[.int j, d], by simp [hd], .cons (.int _ _) (.cons r .nil)⟩
  · simp only [List.mem_cons, List.not_mem_nil, or_false] at hb
    rcases hb with rfl | rfl
    · exact new _ n1
    · exact new _ n0
  · simp only [List.mem_cons, List.not_mem_nil, or_false] at hb
    rcases hb with rfl | rfl
    · obtain ⟨old, ho⟩ := hst.1; exact ⟨_, ho⟩
    · obtain ⟨o, ho, _⟩ := hst.2.1; exact ⟨o, ho⟩

theorem SI_zip {x y : Expr} {e f : E} {elts : List Expr} {kk : Nat} {p pf pos : Pos} (G : Gnd X) (hx : SE X n sc names x e) (hy : SE X n sc names y f) (hk : sc.names.lookup ("zip" : Str) = some .globalImplicit) (hs : notStar x = true) (hs' : notStar y = true) :
    SI X n sc names (.Tuple elts kk p) (.Call (.Name "zip" pf) [x, y] [] pos) (.zip e f) 2 := by
  intro env A s Φ ρ σ Q he eo hroom ok F h
  refine call_blt (fv := .type "zip") (Qs := fun ds σ => (ds.getD 0 .none).onLst fun ds' => (ds.getD 1 .none).onLst fun es => ds.length = 2 ∧ Q ((ds'.zip es).map fun (p : D × D) => [p.1, p.2]) σ) G (by simp [bNames]) (SEs_cons hx (SEs_cons hy SEs_nil hs') hs) hk (by simp [hs, hs']) he eo hroom ok F ?_ ?_
  · show e X n ρ σ fun x σ => f X n ρ σ fun y σ => _
    exact h
  rintro _ s₁ dd σ₁ Φ₁ st r q
  obtain ⟨ds, e1, q⟩ := D.lst_of q
  obtain ⟨es, e2, e3, q'⟩ := D.lst_of q
  obtain ⟨d1, d2, rfl⟩ : ∃ d1 d2, dd = [d1, d2] := by
    match dd, e3 with
    | [d1, d2], _ => exact ⟨d1, d2, rfl⟩
  cases e1
  cases e2
  cases r with
  | cons r1 r2 =>
    cases r2 with
    | cons r2 r3 =>
      cases r3
      obtain ⟨a, rfl⟩ := r1.lst_ref
      obtain ⟨b, rfl⟩ := r2.lst_ref
      obtain ⟨xs, hl1, ra1, hf1⟩ := r1.isList st.ok
      obtain ⟨ys, hl2, ra2, hf2⟩ := r2.isList st.ok
      have len1 := ra1.length
      have len2 := ra2.length
      simp only [Array.length_toList] at len1 len2
      have h1 : ∃ o, s₁.heap.get? a = some o := let ⟨o, ho, _⟩ := hl1; ⟨o, ho⟩
      have h2 : ∃ o, s₁.heap.get? b = some o := let ⟨o, ho, _⟩ := hl2; ⟨o, ho⟩
      have lt1 : a < s₁.heap.objs.size := let ⟨o, ho⟩ := h1; Heap.lt_size ho
      have lt2 : b < s₁.heap.objs.size := let ⟨o, ho⟩ := h2; Heap.lt_size ho
      generalize hN : s₁.heap.objs.size = N at lt1 lt2
      refine call_zip_2 hl1 hl2 fun h' hz hTI hTO hi1 hi2 xx hkeep => wpAny_pyIter_zip hz ?_
      rw [hN] at hz hTI hTO hi1 hi2 ⊢
      have st₂ : Step X.g s₁ { s₁ with heap := h' } Φ₁ Φ₁ σ₁ σ₁ := Step.keeps st.ok hkeep
      have new : ∀ k, s.heap.get? (N + k) = none ∧ σ₁ (N + k) = none ∧ Φ₁ (N + k) = none := fun k => by
        have hb : s₁.heap.get? (N + k) = none := none_of_ge (hN ▸ Nat.le_add_right _ _)
        exact ⟨st.live _ hb, st.ok.freshS hb, st.ok.freshF hb⟩
      have W := WalksT.zip2 (prog := X.prog) (w := X.w) hroom.1 (N + 4) (N + 2) (N + 3) N (N + 1) a b (zipApart_new lt1 lt2) xs ys
      have hrl : ((ds.zip es).map fun p => [p.1, p.2]).length = min xs.size ys.size := by simp [len1, len2]
      refine ⟨_, σ₁, Φ₁, st.trans st₂, q', fun r hr => ?_, N + 4, [N + 4, N + 2, N + 3, N, N + 1, a, b], [N + 4, N + 3, N, N + 1],
        (fun i h => IsZip h (N + 4) (N + 2) (N + 3) .none ∧ IsPair h (N + 2) (.ref N) (.ref (N + 1)) ∧ (∃ a b, IsPair h (N + 3) a b) ∧ h.IsListIter N a i ∧ h.IsListIter (N + 1) b i ∧ h.IsList a xs ∧ h.IsList b ys), rfl, ?_⟩
      · obtain ⟨pr, _, rfl⟩ := List.mem_map.mp hr
        rfl
      have mem : ∀ c ∈ [N + 4, N + 2, N + 3, N, N + 1, a, b], (∃ o, h'.get? c = some o) ∧ (Φ₁ c ≠ none ∨ (s.heap.get? c = none ∧ σ₁ c = none ∧ Φ₁ c = none)) := fun c hc => by
        simp only [List.mem_cons, List.not_mem_nil, or_false] at hc
        rcases hc with rfl | rfl | rfl | rfl | rfl | rfl | rfl
        · exact ⟨⟨_, hz⟩, .inr (new 4)⟩
        · exact ⟨⟨_, hTI⟩, .inr (new 2)⟩
        · exact ⟨⟨_, hTO⟩, .inr (new 3)⟩
        · exact ⟨let ⟨o, ho, _⟩ := hi1; ⟨o, ho⟩, .inr (new 0)⟩
        · exact ⟨let ⟨o, ho, _⟩ := hi2; ⟨o, ho⟩, .inr (new 1)⟩
        · exact ⟨let ⟨o, ho⟩ := h1; ⟨o, hkeep _ o ho⟩, .inl hf1⟩
        · exact ⟨let ⟨o, ho⟩ := h2; ⟨o, hkeep _ o ho⟩, .inl hf2⟩
      refine .ofWalksU (by rw [hrl]; exact W.toU) ⟨hz, hTI, ⟨_, _, hTO⟩, hi1, hi2, hl1.at fun o e => hkeep _ o e, hl2.at fun o e => hkeep _ o e⟩ (fun j v hj hv => ?_) (fun b hb => (mem b hb).1) (fun b hb => (mem b hb).2) (fun b hb => ?_) (fun j h hst b hb => ?_)
      · obtain ⟨x, y, hx, hy, rfl⟩ := hv
        obtain ⟨d1, hd1, r1⟩ := ra1.get' (k := j) (v := x) (by simpa using hx)
        obtain ⟨d2, hd2, r2⟩ := ra2.get' (k := j) (v := y) (by simpa using hy)
        exact ⟨[d1, d2], by simp [List.getElem?_zip_eq_some, hd1, hd2], .cons r1 (.cons r2 .nil)⟩
      · simp only [List.mem_cons, List.not_mem_nil, or_false] at hb
        rcases hb with rfl | rfl | rfl | rfl
        · exact new 4
        · exact new 3
        · exact new 0
        · exact new 1
      · simp only [List.mem_cons, List.not_mem_nil, or_false] at hb
        rcases hb with rfl | rfl | rfl | rfl
        · exact ⟨_, hst.1⟩
        · obtain ⟨a, b, ho⟩ := hst.2.2.1; exact ⟨_, ho⟩
        · obtain ⟨o, ho, _⟩ := hst.2.2.2.1; exact ⟨o, ho⟩
        · obtain ⟨o, ho, _⟩ := hst.2.2.2.2.1; exact ⟨o, ho⟩
end
section
variable {X : Cx} {n : Nat} {sc : Scope} {names : List Str} {g : Heap} {env : Env} {ρ : List MV} {σ : Sg} {Φ : Fz} {h : Heap}

theorem FrameX.emp {m cm : Str → Option Value} {μ : Nat → Option Addr} (F : FrameX g env names ρ σ Φ h m cm μ) : FrameX g env names ρ empS Φ h m cm μ :=
  { F with priv := fun a ha => ⟨rfl, (F.priv a ha).2⟩ }

theorem FrameX.freeze {m cm : Str → Option Value} {μ : Nat → Option Addr} (F : FrameX g env names ρ σ Φ h m cm μ) {i : Nat} {x : Str} {ds : List D} (hi : names[i]? = some x) (ha : acc env x) (hm : ρ.getD i .unb = .mt ds) :
    ∃ a o, h.get? a = some o ∧ σ a = none ∧ Φ a = none ∧ ∃ μ', FrameX g env names (ρ.set i (.val (.lst ds))) σ (Fz.put Φ a o) h m cm μ' := by
  have hlt : i < ρ.length := by
    rw [F.len]
    exact (List.getElem?_eq_some_iff.mp hi).1
  have := F.vars i x hi ha
  rw [hm] at this
  obtain ⟨a, vs, hμ, hlk, ⟨k, hl⟩, hr⟩ := this
  have p := F.priv a (.inr (.inr ⟨i, hμ⟩))
  have le := Fz.le_put (Φ := Φ) (a := a) (o := { cls := .type "list", data := .seq vs k }) p.2.1
  refine ⟨a, _, hl, p.1, p.2.1, fun j => if j = i then none else μ j, ?_⟩
  exact {
      nd := F.nd
      len := by rw [List.length_set]; exact F.len
      ns := F.ns
      cell := F.cell
      cellsIn := F.cellsIn
      hasCell := F.hasCell
      apart := F.apart
      offc := F.offc
      priv := fun b hb => by
        have hb' : Own env μ b ∧ b ≠ a := by
          rcases hb with hb | ⟨n, hb⟩ | ⟨j, hb⟩
          · exact ⟨.inl hb, fun q => (F.offm i a hμ).1 (q ▸ hb)⟩
          · exact ⟨.inr (.inl ⟨n, hb⟩), fun q => (F.offm i a hμ).2 n (q ▸ hb)⟩
          · by_cases q : j = i
            · simp only [if_pos q] at hb; cases hb
            · simp only [if_neg q] at hb
              exact ⟨.inr (.inr ⟨j, hb⟩), fun z => q (F.inj j i a (z ▸ hb) hμ)⟩
        have p := F.priv b hb'.1
        exact ⟨p.1, by rw [Fz.put_ne hb'.2]; exact p.2.1, p.2.2⟩
      vars := fun j y hj hacc => by
        by_cases q : j = i
        · subst q
          have e : y = x := by rw [hi] at hj; cases hj; rfl
          subst e
          simp only [if_true]
          rw [getD_set_self hlt]
          exact ⟨rfl, _, hlk, .lst (Fz.put_self _ _ _) rfl rfl rfl (hr.mono le)⟩
        · simp only [if_neg q]
          rw [getD_set_ne (Ne.symm q)]
          exact (F.vars j y hj hacc).mono le fun xx xx xx e => e
      inj := fun j l b ej el => by
        by_cases q : j = i
        · simp only [if_pos q] at ej; cases ej
        · by_cases q' : l = i
          · simp only [if_pos q'] at el; cases el
          · simp only [if_neg q] at ej
            simp only [if_neg q'] at el
            exact F.inj j l b ej el
      offm := fun j b e => by
        by_cases q : j = i
        · simp only [if_pos q] at e; cases e
        · simp only [if_neg q] at e; exact F.offm j b e
      live := fun j b e => by
        by_cases q : j = i
        · simp only [if_pos q] at e; cases e
        · simp only [if_neg q] at e; exact F.live j b e }

noncomputable def lendS (sc : Scope) (names : List Str) (xs : List Nat) : Bool := xs.all fun i => match names[i]? with
  | some x => accS sc x
  | none => false

theorem lend (he : env.scope = sc) : ∀ (xs : List Nat) (ρ : List MV) (Φ : Fz), lendS sc names xs = true → Ok X.g empS Φ h → (∃ m cm μ, FrameX X.g env names ρ empS Φ h m cm μ) →
    ∃ Φ', Fz.le Φ Φ' ∧ Ok X.g empS Φ' h ∧ Frame X.g env names (frzAll ρ xs) empS Φ' h
  | [], ρ, Φ, _, ok, ⟨m, cm, μ, F⟩ => ⟨Φ, Fz.le.refl _, ok, m, cm, μ, F⟩
  | i :: xs, ρ, Φ, hl, ok, ⟨m, cm, μ, F⟩ => by
    simp only [lendS, List.all_cons, Bool.and_eq_true] at hl
    obtain ⟨hi, hl⟩ := hl
    have hl' : lendS sc names xs = true := hl
    cases hx : names[i]? with
    | none => rw [hx] at hi; cases hi
    | some x =>
      rw [hx] at hi
      cases e : ρ.getD i .unb with
      | mt ds =>
        obtain ⟨a, o, h1, h2, h3, μ', F'⟩ := F.freeze hx (acc_of he hi) e
        obtain ⟨Φ', le, ok', F''⟩ := lend he xs _ _ hl' (ok.freeze h1 h2 h3) ⟨m, cm, μ', F'⟩
        refine ⟨Φ', (Fz.le_put h3).trans le, ok', ?_⟩
        simp only [frzAll, e]
        exact F''
      | unb =>
        obtain ⟨Φ', le, ok', F''⟩ := lend he xs ρ _ hl' ok ⟨m, cm, μ, F⟩
        refine ⟨Φ', le, ok', ?_⟩
        simp only [frzAll, e]
        exact F''
      | val d =>
        obtain ⟨Φ', le, ok', F''⟩ := lend he xs ρ _ hl' ok ⟨m, cm, μ, F⟩
        refine ⟨Φ', le, ok', ?_⟩
        simp only [frzAll, e]
        exact F''
      | pin v d =>
        obtain ⟨Φ', le, ok', F''⟩ := lend he xs ρ _ hl' ok ⟨m, cm, μ, F⟩
        refine ⟨Φ', le, ok', ?_⟩
        simp only [frzAll, e]
        exact F''

theorem Rd.atom {Φ Φ' : Fz} {v : Value} {d : D} (r : Rd Φ v d) (h : d.atom = true) : Rd Φ' v d := by
  cases r with
  | none => exact .none
  | bool b => exact .bool b
  | int i t => exact .int i t
  | str x t => exact .str x t
  | tup => cases h
  | lst => cases h
  | ref => cases h
theorem RdAll.atom {Φ Φ' : Fz} {vs : List Value} {ds : List D} (r : RdAll Φ vs ds) (h : ds.all D.atom = true) : RdAll Φ' vs ds := by
  induction vs generalizing ds with
  | nil => cases r; exact .nil
  | cons v vs ih =>
    cases r with
    | cons r1 r2 =>
      simp only [List.all_cons, Bool.and_eq_true] at h
      exact .cons (r1.atom h.1) (ih r2 h.2)

theorem Ok.emp {hp : Heap} (ok : Ok g σ Φ hp) : Ok g empS Φ hp := ⟨fun b o e => ⟨(ok.base b o e).1, rfl⟩, fun b o e => ⟨(ok.frz b o e).1, rfl⟩, fun xx xx e => by cases e⟩

theorem Step.unlend {s s' : Shared} {Φ' Φ'' : Fz} {σ' : Sg} (ok : Ok g σ Φ s.heap) (st : Step g s s' Φ' Φ'' empS σ') : Step g s s' Φ Φ σ σ := by
  obtain ⟨h', tk, rfl⟩ := st.same
  exact Step.keeps ok fun b o e => st.keep b o e rfl

theorem SE_borrow {x : Expr} {e : E} {xs : List Nat} (hl : lendS sc names xs = true) (hx : SE X n sc names x e) : SE X n sc names x (.borrow xs e) := by
  intro env A s Φ ρ σ Q he eo hr ok F h
  obtain ⟨m, cm, μ, F⟩ := F
  obtain ⟨Φ', le, ok', F'⟩ := lend he xs ρ Φ hl ok.emp ⟨m, cm, μ, F.emp⟩
  refine wpAny_mono (hx env A s Φ' _ empS _ he eo hr ok' F' h) ?_ fun xx xx h => h.elim
  rintro v s₁ ⟨d, σ₁, Φ₁, st, r, q⟩
  obtain ⟨ha, q⟩ := D.atom_of q
  exact ⟨d, σ, Φ, st.unlend ok, r.atom ha, q⟩

theorem ST_borrow {x : Expr} {e : E} {xs : List Nat} (hl : lendS sc names xs = true) (hx : ST X n sc names x e) : ST X n sc names x (.borrow xs e) := by
  intro env A s Φ ρ σ Q P he eo hr ok F hq h
  obtain ⟨m, cm, μ, F⟩ := F
  obtain ⟨Φ', le, ok', F'⟩ := lend he xs ρ Φ hl ok.emp ⟨m, cm, μ, F.emp⟩
  refine wpAny_mono (hx env A s Φ' _ empS _ (fun b xx => P b σ) he eo hr ok' F' (fun d σ' hd => ?_) h) ?_ fun xx xx h => h.elim
  · obtain ⟨c, e, p⟩ := hq d σ (D.atom_of hd).2
    exact ⟨c, e, p⟩
  rintro b s₁ ⟨σ₁, Φ₁, st, p⟩
  exact ⟨σ, Φ, st.unlend ok, p⟩

theorem SL_borrow {x : Expr} {l : L} {xs : List Nat} (hl : lendS sc names xs = true) (hx : SL X n sc names x l) : SL X n sc names x (.borrow xs l) := by
  intro env A s Φ ρ σ Q he eo hr ok F h
  obtain ⟨m, cm, μ, F⟩ := F
  obtain ⟨Φ', le, ok', F'⟩ := lend he xs ρ Φ hl ok.emp ⟨m, cm, μ, F.emp⟩
  refine wpAny_mono (hx env A s Φ' _ empS _ he eo hr ok' F' h) ?_ fun xx xx h => h.elim
  rintro v s₁ ⟨a, vs, ds, σ₁, Φ₁, rfl, st, hn, hpl, h1, h2, r, ha, q⟩
  exact ⟨a, vs, ds, σ, Φ, rfl, st.unlend ok, hn, hpl, ok.freshS hn, ok.freshF hn, r.atom ha, q⟩
end
noncomputable def FnAt (X : Cx) (a : Addr) (sc : Scope) (ps : List Str) (body : List Stmt) : Prop :=
  ∃ o fd, X.g.get? a = some o ∧ o.data = .func fd ∧ fd.scope = sc ∧ fd.body = .stmts body ∧ fd.globals = mainGlobals ∧ fd.builtins = builtinsNs ∧ fd.closure = [] ∧
    X.g.CodeRec fd.code fd.qualname ∧ ∀ vals : List Value, vals.length = ps.length → bindArgs fd ⟨vals, []⟩ = pure (ps.zip vals)

noncomputable def FnIs (X : Cx) (f : Str) (sc : Scope) (ps : List Str) (body : List Stmt) : Prop := ∃ a, X.mg f = some (.ref a) ∧ FnAt X a sc ps body
theorem FnIs.isFn {X : Cx} {f : Str} {sc : Scope} {ps : List Str} {body : List Stmt} (h : FnIs X f sc ps body) : IsFn X f := let ⟨a, h1, o, fd, h2, h3, _⟩ := h; ⟨a, o, fd, h1, h2, h3⟩

structure ScOk (sc : Scope) (names ps : List Str) : Prop where
  kind : sc.kind = .function
  gen : sc.isGenerator = false
  cor : sc.isCoroutine = false
  free : ∀ x ∈ sc.names, x.2 ≠ .free
  nds : (sc.names.map (·.1)).Nodup
  nd : names.Nodup
  pre : names.take ps.length = ps
  st : ∀ p ∈ ps, stS sc p = true

noncomputable def scOk (sc : Scope) (names ps : List Str) : Bool :=
  sc.kind == .function && !sc.isGenerator && !sc.isCoroutine && sc.names.all (fun x => x.2 != .free) && decide ((sc.names.map (·.1)).Nodup) && decide (names.Nodup) && (names.take ps.length == ps) && ps.all (stS sc)
theorem ScOk.of {sc : Scope} {names ps : List Str} (h : scOk sc names ps = true) : ScOk sc names ps := by
  simp only [scOk, Bool.and_eq_true, Bool.not_eq_true', beq_iff_eq, List.all_eq_true, bne_iff_ne, ne_eq, decide_eq_true_eq] at h
  obtain ⟨⟨⟨⟨⟨⟨⟨h1, h2⟩, h3⟩, h4⟩, h5⟩, h6⟩, h7⟩, h8⟩ := h
  exact ⟨h1, h2, h3, h4, h5, h6, h7, h8⟩

theorem bindL_out {k : Str → Option NameKind} {x : Str} : ∀ (bs : List (Str × Value)) (m : Str → Option Value), x ∉ bs.map (·.1) → bindL k bs m x = m x
  | [], _, _ => rfl
  | (n, v) :: r, m, h => by
    simp only [List.map_cons, List.mem_cons, not_or] at h
    rw [bindL, bindL_out r _ h.2]
    split
    · simp [h.1]
    · rfl
theorem bindC_out {k : Str → Option NameKind} {x : Str} : ∀ (bs : List (Str × Value)) (m : Str → Option Value), x ∉ bs.map (·.1) → bindC k bs m x = m x
  | [], _, _ => rfl
  | (n, v) :: r, m, h => by
    simp only [List.map_cons, List.mem_cons, not_or] at h
    rw [bindC, bindC_out r _ h.2]
    split
    · rfl
    · simp [h.1]
theorem bindL_in {k : Str → Option NameKind} {x : Str} {v : Value} (hk : k x = some .local) : ∀ (bs : List (Str × Value)) (m : Str → Option Value), (bs.map (·.1)).Nodup → (x, v) ∈ bs → bindL k bs m x = some v
  | (n, u) :: r, m, nd, h => by
    simp only [List.map_cons, List.nodup_cons] at nd
    rcases List.mem_cons.mp h with e | h
    · cases e
      rw [bindL, bindL_out r _ nd.1, if_pos hk]
      simp
    · rw [bindL]
      exact bindL_in hk r _ nd.2 h
theorem bindC_in {k : Str → Option NameKind} {x : Str} {v : Value} (hk : k x ≠ some .local) : ∀ (bs : List (Str × Value)) (m : Str → Option Value), (bs.map (·.1)).Nodup → (x, v) ∈ bs → bindC k bs m x = some v
  | (n, u) :: r, m, nd, h => by
    simp only [List.map_cons, List.nodup_cons] at nd
    rcases List.mem_cons.mp h with e | h
    · cases e
      rw [bindC, bindC_out r _ nd.1, if_neg hk]
      simp
    · rw [bindC]
      exact bindC_in hk r _ nd.2 h

set_option tactic.hygienic true in
theorem cells_some {x : Str} : ∀ (names : List (Str × NameKind)) (n : Nat) (acc : List (Str × Addr)), names.lookup x = some .cell ∨ (acc.lookup x).isSome = true → ((cellsFrom n names acc).lookup x).isSome = true
  | [], _, _, h => by
    rcases h with h | h
    · simp [List.lookup] at h
    · exact h
  | (y, k) :: r, n, acc, h => by
    unfold cellsFrom
    by_cases e : (x == y) = true
    · have : x = y := by simpa using e
      subst this
      simp only [List.lookup, beq_self_eq_true] at h
      split
      · exact cells_some r _ _ (.inr (by simp [List.lookup]))
      · rename_i hk
        rcases h with h | h
        · simp only [Option.some.injEq] at h
          subst h
          exact absurd (by rfl) hk
        · exact cells_some r _ _ (.inr h)
    · simp only [Bool.not_eq_true] at e
      simp only [List.lookup, e] at h
      split
      · refine cells_some r _ _ (h.imp id fun h => ?_)
        simp only [List.lookup, e]; exact h
      · exact cells_some r _ _ h
theorem cellsFrom_nodup : ∀ (names : List (Str × NameKind)) (n : Nat) (acc : List (Str × Addr)), (names.map (·.1)).Nodup → (acc.map (·.1)).Nodup → (∀ x ∈ names.map (·.1), x ∉ acc.map (·.1)) → ((cellsFrom n names acc).map (·.1)).Nodup
  | [], _, _, _, h, _ => h
  | (y, k) :: r, n, acc, nd, h, hx => by
    simp only [List.map_cons, List.nodup_cons] at nd
    simp only [List.map_cons, List.mem_cons, forall_eq_or_imp] at hx
    unfold cellsFrom
    split
    · refine cellsFrom_nodup r _ _ nd.2 (by simp only [List.map_cons, List.nodup_cons]; exact ⟨hx.1, h⟩) fun x hxm => ?_
      simp only [List.map_cons, List.mem_cons, not_or]
      exact ⟨fun e => nd.1 (e ▸ hxm), hx.2 x hxm⟩
    · exact cellsFrom_nodup r _ _ nd.2 h hx.2

noncomputable def flD : Fl → D
  | .next => .none
  | .ret d => d

section
variable {X : Cx} {n : Nat} {sc : Scope} {names : List Str}

theorem CallSem.le {f : Str} {ds : List D} {σ : Sg} {Q : D → Sg → Prop} {k : Nat} (h : CallSem X n f ds σ Q) (hk : n ≤ k) : CallSem X k f ds σ Q :=
  fun a ha => (h a ha).mono hk fun xx xx q => q
theorem CallSem.mono {f : Str} {ds : List D} {σ : Sg} {Q Q' : D → Sg → Prop} (h : CallSem X n f ds σ Q) (hq : ∀ d σ, Q d σ → Q' d σ) : CallSem X n f ds σ Q' := fun a ha => (h a ha).mono (Nat.le_refl _) hq

theorem call_at {a : Addr} {ps : List Str} {body : List Stmt} {ms : List S} {ds : List D} {σ : Sg} {Q : D → Sg → Prop} (G : Gnd X) (hf : FnAt X a sc ps body) (hs : ScOk sc names ps) (hb : SSs X n sc names body ms) (hlen : ds.length = ps.length)
    (h : mExecs X n ms (ds.map .val ++ List.replicate (names.length - ps.length) .unb) σ (fun fl xx σ' => (∀ b, σ b ≠ none → σ' b ≠ none) ∧ Q (flD fl) σ')) : CallA X (n + 1) (.ref a) ds σ Q := by
  intro A s Φ vs hroom ok hr
  obtain ⟨o, fd, h2, h3, rfl, hbody, hgl, hbl, hclo, hcd, hbind⟩ := hf
  have hvl : vs.length = ps.length := hr.length.trans hlen
  have ho := (ok.base _ _ h2).1
  have keepG : ∀ b o, X.g.get? b = some o → s.heap.get? b = some o := fun b o e => (ok.base b o e).1
  have hpn : ∀ p ∈ ps, fd.scope.names.lookup p = some .local ∨ fd.scope.names.lookup p = some .cell := fun p hp => by
    have := hs.st p hp
    unfold stS at this
    split at this
    · exact .inl (by assumption)
    · exact .inr (by assumption)
    · cases this
  have zmap : (ps.zip vs).map (·.1) = ps := by rw [List.map_fst_zip]; (first | with_reducible exact oox ‹_› | omega)
  have psnd : ps.Nodup := by rw [← hs.pre]; exact hs.nd.sublist (List.take_sublist _ _)
  refine (codeAny_call_cells (body := body) (by have := hroom.2.1; omega) ho h3 (G.lim.keeps keepG) (hcd.keeps keepG) hbody (hbind vs hvl) hclo (fun x hx => ?_) (fun s₁ x => ?_) hs.cor hs.gen hs.kind)
  · have hxp : x.1 ∈ ps := (List.of_mem_zip (show (x.1, x.2) ∈ ps.zip vs from hx)).1
    rcases hpn x.1 hxp with q | q
    · exact .inl q
    · exact .inr ⟨q, cells_some _ _ _ (.inl q)⟩
  generalize hL : s.heap.objs.size = L at x ⊢
  generalize henv : callEnvC fd L a = env at x ⊢
  have eloc : env.locals = L := by rw [← henv]; rfl
  have ecl : env.cells = cellsFrom (L + 1) fd.scope.names [] := by rw [← henv]; rfl
  have esc : env.scope = fd.scope := by rw [← henv]; rfl
  have eo : EnvOk env := by
    refine ⟨?_, ?_, ?_⟩
    · rw [esc]; exact hs.kind
    · rw [← henv]; exact hgl
    · rw [← henv]; exact hbl
  have clnd : (env.cells.map (·.1)).Nodup := by rw [ecl]; exact cellsFrom_nodup _ _ _ hs.nds (by simp) (by simp)
  have fresh : ∀ b, Own env (fun xx => none) b → s.heap.get? b = none := fun b hb => by
    rcases hb with hb | ⟨m, hb⟩ | ⟨_, hb⟩
    · exact none_of_ge (by rw [hb, eloc, hL]; exact Nat.le_refl _)
    · have := x.above m b hb
      rw [eloc] at this
      exact none_of_ge (by rw [hL]; exact Nat.le_of_lt this)
    · cases hb
  have keep := x.toInCall.keep
  have fgr : ∀ b, s.heap.get? b = none → X.g.get? b = none := fun b hb => by
    cases e : X.g.get? b with
    | none => rfl
    | some o => rw [keepG b o e] at hb; cases hb
  have hlt : ps.length ≤ names.length := by
    have := congrArg List.length hs.pre
    rw [List.length_take] at this; omega
  have F : FrameX X.g env names (ds.map .val ++ List.replicate (names.length - ps.length) .unb) σ Φ s₁.heap (bindL env.kindOf (ps.zip vs) fun xx => none) (bindC env.kindOf (ps.zip vs) fun xx => none) (fun xx => none) := {
    nd := hs.nd
    len := by simp; omega
    ns := x.toInCall.ns
    cell := x.cell
    cellsIn := fun m c hm => let ⟨o, ho, _⟩ := x.cell m c (lookup_of_mem_nodup clnd hm); ⟨o, ho⟩
    hasCell := fun y hy => by
      rw [Env.kindOf_sc esc] at hy
      rw [ecl]
      rcases hy with hy | hy
      · exact cells_some _ _ _ (.inl hy)
      · exact absurd rfl (hs.free _ (mem_of_lookup hy))
    apart := x.apart
    offc := fun m c hm => Nat.ne_of_gt (x.above m c hm)
    priv := fun b hb => ⟨ok.freshS (fresh b hb), ok.freshF (fresh b hb), fgr b (fresh b hb)⟩
    vars := fun i y hi hacc => by
      by_cases hlt' : i < ps.length
      · have hd : i < ds.length := by first | with_reducible exact ooe ‹_› ‹_› | omega
        have e1 : (ds.map MV.val ++ List.replicate (names.length - ps.length) MV.unb).getD i MV.unb = .val ds[i] := by
          simp [List.getD, List.getElem?_append, hd]
        rw [e1]
        have hy : ps[i]? = some y := by rw [← hs.pre, List.getElem?_take, if_pos hlt']; exact hi
        obtain ⟨v, hv, rd⟩ := hr.get (k := i) (List.getElem?_eq_getElem hd)
        have hmem : (y, v) ∈ ps.zip vs := by
          refine List.mem_of_getElem? (i := i) ?_
          rw [List.getElem?_zip_eq_some]
          exact ⟨hy, hv⟩
        have hyp : y ∈ ps := List.mem_of_getElem? hy
        refine ⟨rfl, v, ?_, rd⟩
        unfold look
        rcases hpn y hyp with q | q
        · have q' : env.kindOf y = some .local := by rw [Env.kindOf_sc esc]; exact q
          rw [q']
          exact bindL_in q' _ _ (by rw [zmap]; exact psnd) hmem
        · have q' : env.kindOf y = some .cell := by rw [Env.kindOf_sc esc]; exact q
          rw [q']
          exact bindC_in (by rw [q']; simp) _ _ (by rw [zmap]; exact psnd) hmem
      · have e1 : (ds.map MV.val ++ List.replicate (names.length - ps.length) MV.unb).getD i MV.unb = .unb := by
          simp only [List.getD, List.getElem?_append, List.length_map, List.getElem?_replicate]
          rw [if_neg (by omega)]
          split <;> rfl
        rw [e1]
        rfl
    inj := fun xx xx xx e => by cases e
    offm := fun xx xx e => by cases e
    live := fun xx xx e => by cases e }
  have okk : Ok X.g σ Φ s₁.heap := by
    obtain ⟨h', tk, rfl⟩ := x.toInCall.same
    exact (Step.keeps (tk := tk) ok keep).ok
  have I : Inv X env names (fun b => if σ b = none then s.heap.get? b else none) Φ (ds.map .val ++ List.replicate (names.length - ps.length) .unb) σ Φ s₁.heap := by
    refine ⟨okk, Fz.le.refl _, fun b o e => ?_, fun b xx hf => hf, _, _, _, F, fun b hb => ?_⟩
    · split at e
      · exact ⟨keep b o e, by assumption⟩
      · cases e
    · split
      · exact fresh b hb
      · rfl
  refine wpAny_mono (hb env _ s₁ _ Φ _ σ Φ _ esc eo hroom.deeper I h) ?_ fun xx xx h => h.elim
  rintro fl s₂ ⟨fl', ρ', σ', Φ', hs₂, I₂, le, fr, hd, q⟩
  have sm : ∃ h' tk, s₂ = { s with heap := h', toks := tk } := by
    obtain ⟨h', tk, rfl⟩ := x.toInCall.same
    obtain ⟨h'', tk', rfl⟩ := hs₂
    exact ⟨h'', tk', rfl⟩
  have prot : ∀ b o, s.heap.get? b = some o → σ b = none → s₂.heap.get? b = some o ∧ σ' b = none := fun b o e hn => I₂.prot b o (by rw [if_pos hn]; exact e)
  have st : Step X.g s s₂ Φ Φ' σ σ' := by
    refine ⟨sm, fun b o e hn => (prot b o e hn).1, I₂.mono0, I₂.ok, fun b hb' => ?_, fun b hb' => ?_, fun b hb' => ?_⟩
    · by_cases hn : σ b = none
      · cases e : s.heap.get? b with
        | none => exact .inr rfl
        | some o => exact absurd (prot b o e hn).2 hb'
      · exact .inl hn
    · by_cases hn : σ b = none
      · cases e : s.heap.get? b with
        | none => exact .inr (.inr rfl)
        | some o => exact .inl (I₂.priv b (by rw [if_pos hn, e]; simp) hb')
      · exact .inr (.inl hn)
    · cases e : s.heap.get? b with
      | none => rfl
      | some o =>
        by_cases hn : σ b = none
        · rw [(prot b o e hn).1] at hb'; cases hb'
        · have := hd b hn
          cases e' : σ' b with
          | none => exact absurd e' this
          | some t => obtain ⟨o', ho'⟩ := (I₂.ok.trk b t e').isSome; rw [ho'] at hb'; cases hb'
  cases fl' with
  | next =>
    cases fl <;> simp only [FlRel] at fr
    exact ⟨_, σ', Φ', st, .none, q⟩
  | ret d =>
    cases fl <;> simp only [FlRel] at fr
    exact ⟨_, σ', Φ', st, fr, q⟩
theorem call_intro {f : Str} {ps : List Str} {body : List Stmt} {ms : List S} {ds : List D} {σ : Sg} {Q : D → Sg → Prop} (G : Gnd X) (hf : FnIs X f sc ps body) (hs : ScOk sc names ps) (hb : SSs X n sc names body ms) (hlen : ds.length = ps.length)
    (h : mExecs X n ms (ds.map .val ++ List.replicate (names.length - ps.length) .unb) σ (fun fl xx σ' => (∀ b, σ b ≠ none → σ' b ≠ none) ∧ Q (flD fl) σ')) : CallSem X (n + 1) f ds σ Q := by
  intro a ha
  obtain ⟨a', h1, hf⟩ := hf
  rw [ha] at h1; cases h1
  exact call_at G hf hs hb hlen h
end
mutual
inductive Der (σ : Sg) : D → D → Prop
  | same (d : D) : Der σ d d
  | ref {a : Addr} {ds es : List D} : σ a = some (.list ds) → DerAll σ ds es → Der σ (.ref a) (.lst es)
  | tup {ds es : List D} : DerAll σ ds es → Der σ (.tup ds) (.tup es)
  | lst {ds es : List D} : DerAll σ ds es → Der σ (.lst ds) (.lst es)
inductive DerAll (σ : Sg) : List D → List D → Prop
  | nil : DerAll σ [] []
  | cons {d e : D} {ds es : List D} : Der σ d e → DerAll σ ds es → DerAll σ (d :: ds) (e :: es)
end
theorem DerAll.same {σ : Sg} : ∀ ds : List D, DerAll σ ds ds
  | [] => .nil
  | d :: ds => .cons (.same d) (DerAll.same ds)
theorem DerAll.map {σ : Sg} {α : Type} {f g : α → D} : ∀ {l : List α}, (∀ x ∈ l, Der σ (f x) (g x)) → DerAll σ (l.map f) (l.map g)
  | [], _ => .nil
  | x :: l, h => .cons (h x List.mem_cons_self) (DerAll.map fun y hy => h y (List.mem_cons_of_mem _ hy))

noncomputable def lendF (Φ : Fz) (σ : Sg) (h : Heap) : Fz := fun b => match Φ b with
  | some o => some o
  | none => match σ b with
    | some (.list _) => h.get? b
    | _ => none
theorem lendF_le {Φ : Fz} {σ : Sg} {h : Heap} : Fz.le Φ (lendF Φ σ h) := fun b o e => by unfold lendF; rw [e]
theorem lendF_at {g : Heap} {Φ : Fz} {σ : Sg} {h : Heap} {b : Addr} {ds : List D} (ok : Ok g σ Φ h) (e : σ b = some (.list ds)) : lendF Φ σ h b = h.get? b := by
  unfold lendF
  cases q : Φ b with
  | some o => rw [(ok.frz b o q).2] at e; cases e
  | none => rw [e]
theorem lendF_in {g : Heap} {Φ : Fz} {σ : Sg} {h : Heap} {b : Addr} {o : Obj} (ok : Ok g σ Φ h) (e : lendF Φ σ h b = some o) : h.get? b = some o := by
  unfold lendF at e
  cases q : Φ b with
  | some o' => rw [q] at e; cases e; exact (ok.frz b _ q).1
  | none =>
    rw [q] at e
    cases r : σ b with
    | none => rw [r] at e; cases e
    | some t =>
      rw [r] at e
      cases t with
      | list ds => exact e
      | inst => cases e
      | ns => cases e
      | imap => cases e
theorem lendF_none {Φ : Fz} {σ : Sg} {h : Heap} {b : Addr} (e : Φ b = none) (e' : σ b = none) : lendF Φ σ h b = none := by unfold lendF; rw [e, e']

mutual
theorem Der.rd {g : Heap} {Φ : Fz} {σ : Sg} {h : Heap} (ok : Ok g σ Φ h) : ∀ {d e : D} {v : Value}, Der σ d e → Rd Φ v d → Rd (lendF Φ σ h) v e
  | _, _, _, .same _, r => r.mono lendF_le
  | _, _, _, .ref e q, r => by
    cases r
    obtain ⟨vs, ⟨n, hl⟩, ra⟩ := ok.trk _ _ e
    exact .lst ((lendF_at ok e).trans hl) rfl rfl rfl (DerAll.rd ok q ra)
  | _, _, _, .tup q, r => by
    cases r with
    | tup h1 h2 h3 r => exact .tup (lendF_le _ _ h1) h2 h3 (DerAll.rd ok q r)
  | _, _, _, .lst q, r => by
    cases r with
    | lst h1 h2 h3 h4 r => exact .lst (lendF_le _ _ h1) h2 h3 h4 (DerAll.rd ok q r)
theorem DerAll.rd {g : Heap} {Φ : Fz} {σ : Sg} {h : Heap} (ok : Ok g σ Φ h) : ∀ {ds es : List D} {vs : List Value}, DerAll σ ds es → RdAll Φ vs ds → RdAll (lendF Φ σ h) vs es
  | _, _, _, .nil, r => by cases r; exact .nil
  | _, _, _, .cons q qs, r => by
    cases r with
    | cons r rs => exact .cons (Der.rd ok q r) (DerAll.rd ok qs rs)
end
noncomputable def pin1 (v : Value) : MV → MV
  | .val d => .pin v d
  | m => m
noncomputable def pins (vs : Nat → Value) : Nat → List MV → List MV
  | _, [] => []
  | k, m :: ρ => pin1 (vs k) m :: pins vs (k + 1) ρ
noncomputable def rest1 (old new : MV) : MV := match new with
  | .unb => .unb
  | .val d => match d with
    | .tup _ => .unb
    | .lst _ => .unb
    | .ref _ => .unb
    | d => .val d
  | .mt ds => .mt ds
  | .pin _ _ => match old with
    | .val d => .val d
    | .pin v d => .pin v d
    | _ => .unb
noncomputable def restA : List MV → List MV → List MV
  | m :: ρ, m' :: ρ' => rest1 m m' :: restA ρ ρ'
  | _, _ => []
noncomputable def pinOk (vs : Nat → Value) : Nat → List MV → Prop
  | _, [] => True
  | k, m :: ρ => (match m with | .mt ds => ds.all D.atom = true | .pin w _ => w = vs k | _ => True) ∧ pinOk vs (k + 1) ρ
noncomputable def chOk (σ : Sg) (ρ : List MV) : List Nat → List D → Prop
  | i :: is, e :: es => ((ρ.getD i .unb).onVal fun d => Der σ d e) ∧ chOk σ ρ is es
  | [], [] => True
  | _, _ => False
noncomputable def flAtom : Fl → Prop → Prop
  | .next, P => P
  | .ret d, P => d.onAtom P
noncomputable def S.lend (ch : List Nat) (m : S) : S := fun X n ρ σ Q => ∃ es, chOk σ ρ ch es ∧ ∀ vs, m X n (pins vs 0 (setAll ρ ch es)) empS fun fl ρ' xx => flAtom fl (pinOk vs 0 ρ' ∧ Q fl (restA ρ ρ') σ)

theorem pins_len (vs : Nat → Value) : ∀ (ρ : List MV) (k : Nat), (pins vs k ρ).length = ρ.length
  | [], _ => rfl
  | _ :: ρ, k => by show (pins vs (k + 1) ρ).length + 1 = ρ.length + 1; rw [pins_len vs ρ (k + 1)]
theorem pins_get (vs : Nat → Value) : ∀ (ρ : List MV) (k i : Nat), (pins vs k ρ).getD i .unb = pin1 (vs (k + i)) (ρ.getD i .unb)
  | [], _, _ => rfl
  | _ :: _, _, 0 => rfl
  | _ :: ρ, k, i + 1 => by
    show (pins vs (k + 1) ρ).getD i .unb = _
    rw [pins_get vs ρ (k + 1) i, show k + 1 + i = k + (i + 1) by omega]; rfl
theorem restA_len : ∀ ρ ρ' : List MV, ρ'.length = ρ.length → (restA ρ ρ').length = ρ.length
  | [], [], _ => rfl
  | _ :: ρ, _ :: ρ', h => by show (restA ρ ρ').length + 1 = ρ.length + 1; rw [restA_len ρ ρ' (Nat.succ.inj h)]
theorem restA_get : ∀ (ρ ρ' : List MV) (i : Nat), ρ'.length = ρ.length → (restA ρ ρ').getD i .unb = rest1 (ρ.getD i .unb) (ρ'.getD i .unb)
  | [], [], _, _ => rfl
  | _ :: _, _ :: _, 0, _ => rfl
  | _ :: ρ, _ :: ρ', i + 1, h => restA_get ρ ρ' i (Nat.succ.inj h)
theorem pinOk_get {vs : Nat → Value} : ∀ {ρ : List MV} {k : Nat} (i : Nat), pinOk vs k ρ → (∀ ds, ρ.getD i .unb = .mt ds → ds.all D.atom = true) ∧ ∀ w d, ρ.getD i .unb = .pin w d → w = vs (k + i)
  | [], _, _, _ => ⟨fun xx e => (by cases e), fun xx xx e => (by cases e)⟩
  | m :: _, _, 0, h => by
    constructor
    · intro ds e; cases (show m = _ from e); exact h.1
    · intro w d e; cases (show m = _ from e); exact h.1
  | _ :: ρ, k, i + 1, h => by
    have := pinOk_get (ρ := ρ) (k := k + 1) i h.2
    rw [show k + 1 + i = k + (i + 1) by omega] at this
    exact this

section
variable {X : Cx} {n : Nat} {sc : Scope} {names : List Str}
end
theorem lookup_zip : ∀ (ps : List Str) (vs : List Value) (x : Str), ps.length = vs.length → x ∈ ps → ((ps.zip vs).lookup x).isSome = true
  | p :: ps, v :: vs, x, hl, hx => by
    simp only [List.zip_cons_cons, List.lookup]
    by_cases e : (x == p) = true
    · simp [e]
    · simp only [Bool.not_eq_true] at e
      simp only [e]
      rcases List.mem_cons.mp hx with rfl | hx
      · simp at e
      · exact lookup_zip ps vs x (by simpa using hl) hx
theorem filterMap_zip : ∀ (ps : List Str) (vs : List Value), ps.Nodup → ps.length = vs.length → ∀ (pre : List (Str × Value)), (∀ p ∈ ps, pre.lookup p = none) → ps.filterMap (fun n => ((pre ++ ps.zip vs).lookup n).map (n, ·)) = ps.zip vs
  | [], _, _, _, _, _ => by simp
  | p :: ps, [], _, hl, _, _ => by simp at hl
  | p :: ps, v :: vs, nd, hl, pre, hp => by
    simp only [List.nodup_cons] at nd
    have e1 : (pre ++ (p :: ps).zip (v :: vs)).lookup p = some v := by
      rw [List.lookup_append, hp p (by simp)]
      simp [List.lookup]
    rw [List.filterMap_cons, e1]
    simp only [Option.map_some, List.zip_cons_cons]
    congr 1
    have := filterMap_zip ps vs nd.2 (by simpa using hl) (pre ++ [(p, v)]) fun q hq => by
      rw [List.lookup_append, hp q (by simp [hq])]
      have : (q == p) = false := by
        simp only [beq_eq_false_iff_ne, ne_eq]
        rintro rfl
        exact nd.1 hq
      simp [List.lookup, this]
    simpa using this

set_option tactic.hygienic true in
theorem bind_plain {fd : FuncData} {as : List Arg} {kd : List (Option Expr)} {df : List Expr} {vals : List Value} (hp : fd.params = { posonlyargs := [], args := as, vararg := none, kwonlyargs := [], kw_defaults := kd, kwarg := none, defaults := df })
    (hd : fd.defaults = .none) (nd : (as.map (·.arg)).Nodup) (hl : vals.length = (as.map (·.arg)).length) : bindArgs fd ⟨vals, []⟩ = pure ((as.map (·.arg)).zip vals) := by
  have hm : ((as.map (·.arg)).filter fun n => (((as.map (·.arg)).zip vals).lookup n).isNone) = [] := by
    rw [List.filter_eq_nil_iff]
    intro n hn
    have := lookup_zip _ vals n hl.symm hn
    cases e : ((as.map (·.arg)).zip vals).lookup n with
    | none => rw [e] at this; cases this
    | some v => simp
  have hf := filterMap_zip (as.map (·.arg)) vals nd hl.symm [] (by simp [List.lookup])
  simp only [List.nil_append] at hf
  unfold bindArgs
  rw [hp, hd]
  have hs : seqItems? .none = pure none := rfl
  simp only [hs]
  simp [hl]
  split
  · rename_i hc
    exfalso
    have e : List.take ((List.map (fun x => x.arg) ([] : List Arg) ++ List.map (fun x => x.arg) as).length - (List.drop ((#[] : Array Value).size - (List.map (fun x => x.arg) ([] : List Arg) ++ List.map (fun x => x.arg) as).length) ([] : List Value)).length)
        (List.map (fun x => x.arg) ([] : List Arg) ++ List.map (fun x => x.arg) as) = List.map (fun x => x.arg) as := by
      simp only [List.map_nil, List.nil_append, List.drop_nil, List.length_nil, Nat.sub_zero]
      exact List.take_length
    rw [e, hm] at hc
    simp at hc
  · rw [List.filterMap_map] at hf
    rw [hf]

noncomputable def noRec (f : Str) : DefRec := ⟨f, { posonlyargs := [], args := [], vararg := none, kwonlyargs := [], kw_defaults := [], kwarg := none, defaults := [] }, [], { kind := .function, names := [], isGenerator := false, isCoroutine := false }, ⟨0, 0, 0, 0⟩⟩
noncomputable def recOf (q : Program) (f : Str) : DefRec := ((recsOf q).find? fun d => d.name == f).getD (noRec f)

noncomputable def plainParams (a : Arguments) (ps : List Str) : Bool := match a with
  | { posonlyargs := [], args := as, vararg := none, kwonlyargs := [], kw_defaults := _, kwarg := none, defaults := _ } => (as.map (·.arg) == ps) && decide ps.Nodup
  | _ => false

set_option tactic.hygienic true in
theorem fnIs_of_top {p q prog : Program} {w : World} {loose : List Str} {mean : ExcName → Option Value} {mg mb : Str → Option Value} {h : Heap} (T : Top p loose mean mg mb h) {f : Str} {ps : List Str}
    (e : (recsOf p).find? (fun d => d.name == f) = some (recOf q f)) (hp : plainParams (recOf q f).params ps = true) : FnIs ⟨prog, w, h, mg, mb⟩ f (recOf q f).scope ps (recOf q f).body := by
  have hm := List.mem_of_find?_eq_some e
  have hn : (recOf q f).name = f := by simpa using List.find?_some e
  obtain ⟨a, o, pm, code, doc, h1, h2, h3, h4⟩ := T.fn _ hm
  rw [hn] at h1 h4
  refine ⟨a, h1, o, _, h2, h3, rfl, rfl, rfl, rfl, rfl, ?_, fun vals hv => ?_⟩
  · show h.CodeRec code (recOf q f).name
    rw [hn]; exact h4
  · unfold plainParams at hp
    split at hp
    · rename_i as _ _ hpp
      simp only [Bool.and_eq_true, beq_iff_eq, decide_eq_true_eq] at hp
      obtain ⟨rfl, nd⟩ := hp
      exact bind_plain (fd := Calls.docDef (recOf q f).name (recOf q f).params (recOf q f).body (recOf q f).scope pm code doc) hpp rfl nd hv
    · cases hp

noncomputable def bltFree (p : Program) (loose : List Str) : Bool := bNames.all fun x =>
  !(startupNames.contains x.1) && !(loose.contains x.1) && !(((recsOf p).map (·.name)).contains x.1) && !(((litsOf p).map (·.1)).contains x.1) && !(((clssOf p loose).map (·.name)).contains x.1)

theorem boot_names : ∀ x ∈ bNames, x.1 ≠ "__name__" ∧ bootBuiltins x.1 = some x.2 := by
  intro x hx
  have : (bNames.all fun x => x.1 != "__name__" && (match bootBuiltins x.1, x.2 with | some (.builtin a), .builtin b => a == b | some (.type a), .type b => a == b | _, _ => false)) = true := by decide +kernel
  have := List.all_eq_true.mp this x hx
  simp only [Bool.and_eq_true, bne_iff_ne, ne_eq] at this
  refine ⟨this.1, ?_⟩
  have := this.2
  split at this
  · simp_all
  · simp_all
  · cases this

theorem gnd_of_top {p prog : Program} {w : World} {loose : List Str} {mean : ExcName → Option Value} {mg mb : Str → Option Value} {h : Heap} (T : Top p loose mean mg mb h) (hb : bltFree p loose = true) : Gnd ⟨prog, w, h, mg, mb⟩ where
  gl := T.g
  bl := T.b
  lim := T.nolimit
  blt := fun x hx => by
    have := List.all_eq_true.mp hb x hx
    simp only [Bool.and_eq_true, Bool.not_eq_true', List.contains_eq_mem, decide_eq_false_iff_not] at this
    obtain ⟨⟨⟨⟨h1, h2⟩, h3⟩, h4⟩, h5⟩ := this
    have hn := boot_names x hx
    exact ⟨T.free x.1 h1 h2 h3 h4 h5, (T.builtins x.1 hn.1).trans hn.2⟩

theorem ints_rd {Φ : Fz} {vs : List Value} {ns : List Int} (h : IntsAre vs ns) : RdAll Φ vs (ns.map D.int) := by
  induction h with
  | nil => exact .nil
  | cons i t _ ih => exact .cons (.int i t) ih

theorem list_plain {P : Params} {h : Heap} {l : Addr} {vs : Array Value} {xs : List PyData} (hL : h.IsList l vs) (hW : W.Well P h (.ref l) (W.ofPy (.list xs))) : ∃ o, h.get? l = some o ∧ o.cls = .type "list" ∧ o.dict = none ∧ ∃ n, o.data = .seq vs n := by
  obtain ⟨o, ho, hc, n, hd⟩ := hL
  have hW : W.Well P h (.ref l) (.list (W.ofPys xs)) := hW
  cases hW with
  | list h1 _ =>
    rw [ho] at h1
    cases h1
    exact ⟨_, ho, hc, rfl, n, hd⟩

theorem law_ends {prog : Program} {w : World} {mg mb : Str → Option Value} {s : Shared} {fa l : Addr} {vs : List Value} {ns : List Int} {k : Nat} {P : Value → Shared → Prop} {E : Value → Shared → Prop} {f : Str} (hk : k ≤ 40) (hm : mg f = some (.ref fa))
    (hL : ∃ o, s.heap.get? l = some o ∧ o.cls = .type "list" ∧ o.dict = none ∧ ∃ n, o.data = .seq vs.toArray n) (hI : IntsAre vs ns) (hc : CallSem ⟨prog, w, s.heap, mg, mb⟩ k f [.lst (ns.map D.int)] empS (fun d xx => d = .bool true))
    (hP : ∀ h' tk, (∀ b o, s.heap.get? b = some o → h'.get? b = some o) → P (.bool true) { s with heap := h', toks := tk }) : wpAny (model prog w) callerA (call (.ref fa) [.ref l]) P E s := by
  obtain ⟨o, ho, hcl, hdn, n, hd⟩ := hL
  have ok : Ok s.heap empS (fun b => if b = l then some o else none) s.heap := by
    refine ⟨fun b o e => ⟨e, rfl⟩, fun b o' e => ⟨?_, rfl⟩, fun xx xx e => by cases e⟩
    split at e
    · cases e; subst b; exact ho
    · cases e
  have hroom : Room k callerA := by
    refine Room.le (n := 40) ?_ hk
    unfold Room
    decide +kernel
  refine wpAny_mono ((hc fa hm).wp hroom ok (.cons (.lst (o := o) (by simp) hcl hd hdn (ints_rd hI)) .nil)) ?_ fun xx xx h => h.elim
  rintro v s' ⟨d, σ', Φ', st, rd, rfl⟩
  obtain ⟨h', tk, rfl⟩ := st.same
  cases rd
  exact hP h' tk fun b o e => st.keep b o e rfl

noncomputable def nameAt (names : List Str) (i : Nat) (x : Str) : Bool := names[i]? == some x

noncomputable def tgtsB (names : List Str) (sc : Scope) : List Expr → List Nat → Bool
  | [], [] => true
  | .Name x _ :: es, i :: is => nameAt names i x && stS sc x && tgtsB names sc es is
  | _, _ => false
noncomputable def tgtB (names : List Str) (sc : Scope) : Expr → List Nat → Bool
  | .Name x _, [i] => nameAt names i x && stS sc x
  | .Tuple elts _ _, is => tgtsB names sc elts is
  | _, _ => false
noncomputable def tgtsLB (names : List Str) (sc : Scope) : List Expr → List Nat → Bool
  | [], [] => true
  | .Name x _ :: es, i :: is => nameAt names i x && sc.names.lookup x == some .local && tgtsLB names sc es is
  | _, _ => false
noncomputable def tgtLB (names : List Str) (sc : Scope) : Expr → List Nat → Bool
  | .Name x _, [i] => nameAt names i x && sc.names.lookup x == some .local
  | .Tuple elts _ _, is => tgtsLB names sc elts is
  | _, _ => false
noncomputable def compB (sc scope : Scope) (names : List Str) (is : List Nat) : Bool :=
  scope.kind == .function && decide ((scope.names.map (·.1)).Nodup) && scope.names.all (fun y => y.2 != .cell) &&
    scope.names.all (fun y => y.2 != .free || sc.names.lookup y.1 == some .cell || sc.names.lookup y.1 == some .free) &&
    scope.names.all (fun y => y.2 != .local || !names.contains y.1 || is.any fun i => nameAt names i y.1)

theorem nameAt_eq {names : List Str} {i : Nat} {x : Str} (h : nameAt names i x = true) : names[i]? = some x := by simpa [nameAt] using h

theorem tgts_of {names : List Str} {sc : Scope} : ∀ {es : List Expr} {is : List Nat}, tgtsB names sc es is = true → Tgts names sc es is
  | [], [], _ => trivial
  | [], _ :: _, h => by simp [tgtsB] at h
  | e :: es, [], h => by cases e <;> simp [tgtsB] at h
  | e :: es, i :: is, h => by
    cases e <;> simp only [tgtsB, Bool.and_eq_true] at h <;> first | cases h; done | skip
    exact ⟨nameAt_eq h.1.1, h.1.2, tgts_of h.2⟩
theorem tgt_of {names : List Str} {sc : Scope} {e : Expr} {is : List Nat} (h : tgtB names sc e is = true) : TgtOk names sc e is := by
  unfold tgtB at h
  split at h
  · simp only [Bool.and_eq_true] at h
    exact ⟨_, rfl, nameAt_eq h.1, h.2⟩
  · exact tgts_of h
  · cases h
theorem tgtsL_of {names : List Str} {sc : Scope} : ∀ {es : List Expr} {is : List Nat}, tgtsLB names sc es is = true → TgtsL names sc es is
  | [], [], _ => trivial
  | [], _ :: _, h => by simp [tgtsLB] at h
  | e :: es, [], h => by cases e <;> simp [tgtsLB] at h
  | e :: es, i :: is, h => by
    cases e <;> simp only [tgtsLB, Bool.and_eq_true] at h <;> first | cases h; done | skip
    exact ⟨nameAt_eq h.1.1, by simpa using h.1.2, tgtsL_of h.2⟩
theorem tgtL_of {names : List Str} {sc : Scope} {e : Expr} {is : List Nat} (h : tgtLB names sc e is = true) : TgtOkL names sc e is := by
  unfold tgtLB at h
  split at h
  · simp only [Bool.and_eq_true] at h
    exact ⟨_, rfl, nameAt_eq h.1, by simpa using h.2⟩
  · exact tgtsL_of h
  · cases h
theorem comp_of {sc scope : Scope} {names : List Str} {is : List Nat} (h : compB sc scope names is = true) : CompOk sc scope names is := by
  simp only [compB, Bool.and_eq_true, beq_iff_eq, decide_eq_true_eq, List.all_eq_true, bne_iff_ne, ne_eq, Bool.or_eq_true, List.any_eq_true] at h
  obtain ⟨⟨⟨⟨h1, h2⟩, h3⟩, h4⟩, h5⟩ := h
  refine ⟨h1, h2, h3, fun x hx => ?_, fun x hx hn => ?_⟩
  · rcases h4 _ hx with (h | h) | h
    · exact absurd rfl h
    · exact .inl h
    · exact .inr h
  · rcases h5 _ hx with (h | h) | ⟨i, hi, h⟩
    · exact absurd rfl h
    · simp only [Bool.not_eq_true', List.contains_eq_mem, decide_eq_false_iff_not] at h
      exact absurd hn h
    · exact ⟨i, hi, nameAt_eq h⟩


section
variable {X : Cx} {n : Nat} {sc : Scope} {names : List Str}
theorem SE_isint {x : Expr} {e : E} {p p' pos : Pos} (G : Gnd X) (hx : SE X n sc names x e) (hk : sc.names.lookup ("isinstance" : Str) = some .globalImplicit) (hT : sc.names.lookup ("int" : Str) = some .globalImplicit) (hs : notStar x = true) :
    SE X n sc names (.Call (.Name "isinstance" p) [x, .Name "int" p'] [] pos) (.bi .isint [e]) := SE_isi (T := "int") G (by simp) hx hk hT hs
theorem SE_isbool {x : Expr} {e : E} {p p' pos : Pos} (G : Gnd X) (hx : SE X n sc names x e) (hk : sc.names.lookup ("isinstance" : Str) = some .globalImplicit) (hT : sc.names.lookup ("bool" : Str) = some .globalImplicit) (hs : notStar x = true) :
    SE X n sc names (.Call (.Name "isinstance" p) [x, .Name "bool" p'] [] pos) (.bi .isbool [e]) := SE_isi (T := "bool") G (by simp) hx hk hT hs
theorem SE_islist {x : Expr} {e : E} {p p' pos : Pos} (G : Gnd X) (hx : SE X n sc names x e) (hk : sc.names.lookup ("isinstance" : Str) = some .globalImplicit) (hT : sc.names.lookup ("list" : Str) = some .globalImplicit) (hs : notStar x = true) :
    SE X n sc names (.Call (.Name "isinstance" p) [x, .Name "list" p'] [] pos) (.bi .islist [e]) := SE_isi (T := "list") G (by simp) hx hk hT hs
theorem SE_istuple {x : Expr} {e : E} {p p' pos : Pos} (G : Gnd X) (hx : SE X n sc names x e) (hk : sc.names.lookup ("isinstance" : Str) = some .globalImplicit) (hT : sc.names.lookup ("tuple" : Str) = some .globalImplicit) (hs : notStar x = true) :
    SE X n sc names (.Call (.Name "isinstance" p) [x, .Name "tuple" p'] [] pos) (.bi .istuple [e]) := SE_isi (T := "tuple") G (by simp) hx hk hT hs
theorem CondOk.nil : CondOk X n sc names [] none := .inl ⟨rfl, rfl⟩
theorem CondOk.one {c : Expr} {e : E} (h : ST X n sc names c e) : CondOk X n sc names [c] (some e) := .inr ⟨c, e, rfl, rfl, h⟩
end
noncomputable def stmtAt (q : Program) (k : Nat) : Stmt := q.main.body.getD k (.Pass ⟨0, 0, 0, 0⟩)
noncomputable def fnScope : Stmt → Scope
  | .FunctionDef _ _ _ _ _ _ scope _ _ _ => scope
  | _ => { kind := .function, names := [], isGenerator := false, isCoroutine := false }
noncomputable def fnBody : Stmt → List Stmt
  | .FunctionDef _ _ body _ _ _ _ _ _ _ => body
  | _ => []
section
variable {X : Cx} {n : Nat}
theorem forT_inv {bd : List MV → Sg → (Fl → List MV → Sg → Prop) → Prop} {is : List Nat} {Q : Fl → List MV → Sg → Prop} {rows : List (List D)} (I : Nat → List MV → Sg → Prop) {ρ : List MV} {σ : Sg} (h0 : I 0 ρ σ)
    (step : ∀ j (hj : j < rows.length) ρ σ, I j ρ σ → bd (setAll ρ is rows[j]) σ fun fl ρ' σ' => match fl with | .next => I (j + 1) ρ' σ' | .ret d => Q (.ret d) ρ' σ')
    (fin : ∀ ρ σ, I rows.length ρ σ → Q .next ρ σ) : forT bd is rows ρ σ Q := by
  have key : ∀ k j ρ σ, k = rows.length - j → j ≤ rows.length → I j ρ σ → forT bd is (rows.drop j) ρ σ Q := by
    intro k
    induction k with
    | zero =>
      intro j ρ σ hk hj hI
      have : j = rows.length := by omega
      subst this
      rw [List.drop_length]
      exact fin _ _ hI
    | succ k ih =>
      intro j ρ σ hk hj hI
      have hlt : j < rows.length := by omega
      rw [List.drop_eq_getElem_cons hlt]
      exact ⟨_, step j hlt ρ σ hI, fun xx xx xx z => z, fun ρ σ z => ih (j + 1) ρ σ (by omega) (by first | with_reducible exact Nat.succ_le_of_lt ‹_› | omega) z⟩
  have := key rows.length 0 ρ σ (by omega) (by first | with_reducible exact Nat.zero_le _ | omega) h0
  simpa using this

theorem for_inv {body : List S} {is : List Nat} {Q : Fl → List MV → Sg → Prop} {rows : List (List D)} (I : Nat → List MV → Sg → Prop) {ρ : List MV} {σ : Sg} (h0 : I 0 ρ σ)
    (step : ∀ j (hj : j < rows.length) ρ σ, I j ρ σ → mExecs X n body (setAll ρ is rows[j]) σ fun fl ρ' σ' => match fl with | .next => I (j + 1) ρ' σ' | .ret d => Q (.ret d) ρ' σ')
    (fin : ∀ ρ σ, I rows.length ρ σ → Q .next ρ σ) : forT (mExecs X n body) is rows ρ σ Q :=
  forT_inv I h0 step fin

theorem comp_map {cond elt : List MV → Sg → (D → Sg → Prop) → Prop} {ρ : List MV} {is : List Nat} {σ : Sg} (p : List D → Bool) (f : List D → D) : ∀ {rows : List (List D)} {Q : List D → Sg → Prop},
    (∀ r ∈ rows, ∀ K : D → Sg → Prop, K (.bool (p r)) σ → cond (setAll ρ is r) σ K) → (∀ r ∈ rows, p r = true → ∀ K : D → Sg → Prop, K (f r) σ → elt (setAll ρ is r) σ K) → Q ((rows.filter p).map f) σ → compT cond elt ρ is rows σ Q
  | [], Q, _, _, h => h
  | r :: rs, Q, hc, he, h => by
    simp only [compT]
    refine hc r (by simp) _ (show if p r = true then _ else _ from ?_)
    cases hp : p r with
    | true =>
      simp only [if_true]
      refine he r (by simp) hp _ (comp_map p f (fun r hr => hc r (by simp [hr])) (fun r hr => he r (by simp [hr])) ?_)
      simpa [hp] using h
    | false =>
      simp only [Bool.false_eq_true, if_false]
      refine comp_map p f (fun r hr => hc r (by simp [hr])) (fun r hr => he r (by simp [hr])) ?_
      simpa [hp] using h
end
section
variable {Q : D → Prop} {R : Bool → Prop} {i j : Int}
theorem b_add : binT .add (.int i) (.int j) Q = Q (.int (i + j)) := rfl
theorem b_sub : binT .sub (.int i) (.int j) Q = Q (.int (i - j)) := rfl
theorem b_mul : binT .mul (.int i) (.int j) Q = ((small i ∨ small j) ∧ Q (.int (i * j))) := rfl
theorem b_div : binT .fdiv (.int i) (.int j) Q = (j ≠ 0 ∧ small j ∧ Q (.int (i.fdiv j))) := rfl
theorem b_mod : binT .mod (.int i) (.int j) Q = (j ≠ 0 ∧ Q (.int (i.fmod j))) := rfl
theorem c_lt : cmpT .lt (.int i) (.int j) R = R (decide (i < j)) := rfl
theorem c_le : cmpT .le (.int i) (.int j) R = R (decide (i ≤ j)) := rfl
theorem c_gt : cmpT .gt (.int i) (.int j) R = R (decide (j < i)) := rfl
theorem c_ge : cmpT .ge (.int i) (.int j) R = R (decide (j ≤ i)) := rfl
theorem c_eqx {x y : D} : cmpT .eq x y R = (x.ok 8 = true ∧ y.ok 8 = true ∧ R (eqv x y)) := rfl
theorem c_nex {x y : D} : cmpT .ne x y R = (x.ok 8 = true ∧ y.ok 8 = true ∧ R (!eqv x y)) := rfl
theorem eqv_int : eqv (.int i) (.int j) = decide (i = j) := by
  show (i == j) = _
  exact Bool.beq_eq_decide_eq i j
theorem c_eq : cmpT .eq (.int i) (.int j) R = R (decide (i = j)) := by
  rw [c_eqx, eqv_int]; simp [D.ok]
theorem c_ne : cmpT .ne (.int i) (.int j) R = R (decide (i ≠ j)) := by
  rw [c_nex, eqv_int]; simp [D.ok]
theorem c_in {x : D} {ds : List D} : cmpT .in_ x (.lst ds) R = (x.ok 8 = true ∧ D.ok 9 (.lst ds) = true ∧ R (ds.any fun y => eqv y x)) := rfl
theorem c_is {x : D} : cmpT .is_ x .none R = R x.isNone := propext ⟨fun h => h.2, fun h => ⟨rfl, h⟩⟩
theorem c_isn {x : D} : cmpT .isn x .none R = R (!x.isNone) := propext ⟨fun h => h.2, fun h => ⟨rfl, h⟩⟩
theorem cond_bool {b : Bool} {x y : Prop} : condT (.bool b) x y = (if b = true then x else y) := rfl
theorem not_bool {b : Bool} {Q : Bool → Prop} : notT (.bool b) Q = Q (!b) := rfl
theorem i_lst {ds : List D} {k : Int} : idxT (.lst ds) (.int k) Q = (0 ≤ k ∧ k < 2 ^ 63 ∧ ∃ d, ds[k.toNat]? = some d ∧ Q d) := rfl
theorem i_tup {ds : List D} {k : Int} : idxT (.tup ds) (.int k) Q = (0 ≤ k ∧ k < 2 ^ 63 ∧ ∃ d, ds[k.toNat]? = some d ∧ Q d) := rfl
theorem i_ints {ns : List Int} {k : Int} : idxT (.lst (ns.map D.int)) (.int k) Q = (0 ≤ k ∧ k < 2 ^ 63 ∧ k < ns.length ∧ Q (.int (ns.getD k.toNat 0))) := by
  rw [i_lst]
  apply propext
  simp only [List.getElem?_map, Option.map_eq_some_iff]
  constructor
  · rintro ⟨h0, h1, d, ⟨i, hi, rfl⟩, q⟩
    have hk := (List.getElem?_eq_some_iff.mp hi).1
    refine ⟨h0, h1, by first | decide | omega, ?_⟩
    simpa [List.getD, hi] using q
  · rintro ⟨h0, h1, h2, q⟩
    have hk : k.toNat < ns.length := by first | decide | omega
    refine ⟨h0, h1, _, ⟨ns[k.toNat], List.getElem?_eq_getElem hk, rfl⟩, ?_⟩
    simpa [List.getD, List.getElem?_eq_getElem hk] using q
theorem f_len {ds : List D} : biT .len [.lst ds] Q = (ds.length ≤ 2 ^ 20 ∧ Q (.int ds.length)) := rfl
theorem f_lenT {ds : List D} : biT .len [.tup ds] Q = (ds.length ≤ 2 ^ 20 ∧ Q (.int ds.length)) := rfl
theorem f_sum {ns : List Int} : biT .sum [.lst (ns.map D.int)] Q = Q (.int ns.sum) := by
  apply propext
  constructor
  · rintro ⟨ms, e, q⟩
    have : ns = ms := List.map_inj_right (fun xx xx h => by cases h; rfl) |>.mp (D.lst.inj (List.cons.inj e).1)
    rw [this]; exact q
  · intro q; exact ⟨ns, rfl, q⟩
theorem f_min2 : biT .min2 [.int i, .int j] Q = Q (.int (min i j)) := rfl
theorem f_isint : biT .isint [.int i] Q = Q (.bool true) := rfl
theorem f_isbool : biT .isbool [.int i] Q = Q (.bool false) := rfl
theorem f_islist {ds : List D} : biT .islist [.lst ds] Q = Q (.bool true) := rfl
theorem f_istup {ds : List D} : biT .istuple [.tup ds] Q = Q (.bool true) := rfl
theorem f_tuple1 {ds : List D} : biT .tuple1 [.lst ds] Q = (ds.length ≤ 2 ^ 20 ∧ Q (.tup ds)) := rfl
theorem f_max1 {ns : List Int} {m : Int} (hm : m ∈ ns) (h : ∀ k ∈ ns, k ≤ m) (q : Q (.int m)) : biT .max1 [.lst (ns.map D.int)] Q := ⟨ns, m, rfl, hm, h, q⟩
theorem f_min1 {ns : List Int} {m : Int} (hm : m ∈ ns) (h : ∀ k ∈ ns, m ≤ k) (q : Q (.int m)) : biT .min1 [.lst (ns.map D.int)] Q := ⟨ns, m, rfl, hm, h, q⟩
theorem i_0 {a : D} {l : List D} : idxT (.lst (a :: l)) (.int 0) Q = Q a := by rw [i_lst]; simp
theorem i_1 {a b : D} {l : List D} : idxT (.lst (a :: b :: l)) (.int 1) Q = Q b := by rw [i_lst]; simp
theorem i_2 {a b c : D} {l : List D} : idxT (.lst (a :: b :: c :: l)) (.int 2) Q = Q c := by rw [i_lst]; simp
theorem t_0 {a : D} {l : List D} : idxT (.tup (a :: l)) (.int 0) Q = Q a := by rw [i_tup]; simp
theorem t_1 {a b : D} {l : List D} : idxT (.tup (a :: b :: l)) (.int 1) Q = Q b := by rw [i_tup]; simp
theorem t_2 {a b c : D} {l : List D} : idxT (.tup (a :: b :: c :: l)) (.int 2) Q = Q c := by rw [i_tup]; simp
theorem keepS {σ : Sg} : (∀ b : Addr, σ b ≠ none → σ b ≠ none) = True := by simp
theorem g_z {α : Type} {x d : α} {l : List α} : List.getD (x :: l) 0 d = x := rfl
theorem g_s {α : Type} {x d : α} {l : List α} {n : Nat} : List.getD (x :: l) (n + 1) d = List.getD l n d := rfl
theorem q_val {x : D} {P : D → Prop} : (MV.val x).onVal P = P x := rfl
theorem q_mt {x : List D} {P : List D → Prop} : (MV.mt x).onMt P = P x := rfl
theorem q_int {x : Int} {P : Int → Prop} : (D.int x).onInt P = P x := rfl
theorem q_lst {x : List D} {P : List D → Prop} : (D.lst x).onLst P = P x := rfl
theorem q_tup {x : List D} {P : List D → Prop} : (D.tup x).onTup P = P x := rfl
theorem q_one {x : List D} {P : List (List D) → Prop} : seqT 1 (.lst x) P = P (x.map fun d => [d]) := rfl
theorem q_onet {x : List D} {P : List (List D) → Prop} : seqT 1 (.tup x) P = P (x.map fun d => [d]) := rfl
theorem at_b {b : Bool} {P : Prop} : D.onAtom (.bool b) P = P := rfl
theorem at_i {i : Int} {P : Prop} : D.onAtom (.int i) P = P := rfl
theorem ev_nil {X : Cx} {n : Nat} {ρ : List MV} {σ : Sg} {Q : List D → Sg → Prop} : mEvals X n [] ρ σ Q = Q [] σ := rfl
theorem ev_cons {X : Cx} {n : Nat} {e : E} {es : List E} {ρ : List MV} {σ : Sg} {Q : List D → Sg → Prop} : mEvals X n (e :: es) ρ σ Q = e X n ρ σ fun d σ => mEvals X n es ρ σ fun ds σ => Q (d :: ds) σ := rfl
theorem cd_some {X : Cx} {n : Nat} {e : E} {ρ : List MV} {σ : Sg} {Q : D → Sg → Prop} : mCond X n (some e) ρ σ Q = e X n ρ σ Q := rfl
theorem cd_none {X : Cx} {n : Nat} {ρ : List MV} {σ : Sg} {Q : D → Sg → Prop} : mCond X n none ρ σ Q = Q (.bool true) σ := rfl
end
theorem fmod_nn {a b : Int} (h : 0 < b) : 0 ≤ a.fmod b := by
  rw [Int.fmod_eq_emod_of_nonneg a (by first | decide | with_reducible exact Int.le_of_lt ‹_› | omega)]; exact Int.emod_nonneg a (by first | decide | omega)
theorem fmod_ltt {a b : Int} (h : 0 < b) : a.fmod b < b := by
  rw [Int.fmod_eq_emod_of_nonneg a (by first | decide | with_reducible exact Int.le_of_lt ‹_› | omega)]; exact Int.emod_lt_of_pos a h

noncomputable def M.cell : List S :=
  [.iff (.cmp .lt (.var 1) (.bi .len [(.var 0)])) [.ret (.idx (.var 0) (.var 1))] [],
    .asg 2 (.bin .add (.bin .mul (.var 1) (.cst (.int 7919))) (.cst (.int 5))),
    .iff (.cmp .gt (.bi .len [(.var 0)]) (.cst (.int 0)))
      [.asg 2 (.bin .mod (.bin .add (.bin .mul (.idx (.var 0) (.bin .mod (.bin .mul (.var 1) (.cst (.int 7))) (.bi .len [(.var 0)]))) (.cst (.int 48271))) (.bin .mul (.var 1) (.cst (.int 7919)))) (.cst (.int 2147483647)))]
      [],
    .ret (.bin .mod (.bin .mul (.var 2) (.var 2)) (.cst (.int 2147483629)))]
noncomputable def M.whole : List S := [.ret (.and_ (.bi .isint [(.var 0)]) (.not_ (.bi .isbool [(.var 0)])))]

noncomputable def cellV (ns : List Int) (k : Int) : Int :=
  if k < ns.length then ns.getD k.toNat 0
  else
    let m := if 0 < (ns.length : Int) then (ns.getD ((k * 7).fmod ns.length).toNat 0 * 48271 + k * 7919).fmod 2147483647 else k * 7919 + 5
    (m * m).fmod 2147483629

theorem ms_cons {X : Cx} {n : Nat} {s : S} {ss : List S} {ρ : List MV} {σ : Sg} {Q : Fl → List MV → Sg → Prop} :
    mExecs X n (s :: ss) ρ σ Q = mExec X n s ρ σ fun fl ρ' σ' => match fl with | .next => mExecs X n ss ρ' σ' Q | .ret d => Q (.ret d) ρ' σ' := rfl
theorem ms_nil {X : Cx} {n : Nat} {ρ : List MV} {σ : Sg} {Q : Fl → List MV → Sg → Prop} : mExecs X n [] ρ σ Q = Q .next ρ σ := rfl
theorem map_headD (l : List D) : ((l.map fun d => [d]).map fun r => r.headD .none) = l := by
  rw [List.map_map]
  exact List.map_id l
theorem filter_all {α : Type} (l : List α) : l.filter (fun xx => true) = l := List.filter_eq_self.mpr (by simp)

section
variable {X : Cx} {n : Nat} {σ : Sg}
set_option tactic.hygienic true in
theorem cell_spec {ns : List Int} {k : Int} {Q : D → Sg → Prop} (hl : ns.length ≤ 63) (h0 : 0 ≤ k) (h1 : k ≤ 100000) (q : Q (.int (cellV ns k)) σ) :
    mExecs X n M.cell [.val (.lst (ns.map D.int)), .val (.int k), .unb] σ (fun fl xx σ' => (∀ b, σ b ≠ none → σ' b ≠ none) ∧ Q (flD fl) σ') := by
  simp only [M.cell, ms_cons, ms_nil, ev_nil, ev_cons, E.cst, E.var, E.bin, E.cmp, E.and_, E.not_, E.idx, E.bi, S.iff, S.asg, S.ret, q_val, b_add, b_mul, b_mod, c_lt, c_gt, f_len, cond_bool, i_ints, g_z, g_s, List.set_cons_zero, List.set_cons_succ, flD, keepS, true_and, decide_eq_true_eq, List.length_map]
  unfold cellV at q
  refine ⟨by first | decide | with_reducible exact oo3 ‹_› | omega, ?_⟩
  split at q
  · rename_i hk
    rw [if_pos hk]
    exact ⟨h0, by first | decide | omega, hk, q⟩
  · rename_i hk
    rw [if_neg hk]
    refine ⟨.inr ⟨by first | decide | omega, by first | decide | omega⟩, by first | decide | with_reducible exact oo3 ‹_› | omega, ?_⟩
    by_cases hz : 0 < (ns.length : Int)
    · simp only [if_pos hz] at q ⊢
      have a0 := fmod_nn (a := k * 7) hz
      have a1 := fmod_ltt (a := k * 7) hz
      refine ⟨.inr ⟨by first | decide | omega, by first | decide | omega⟩, by first | decide | with_reducible exact oo3 ‹_› | omega, by first | decide | omega, a0, by first | decide | omega, a1, .inr ⟨by first | decide | omega, by first | decide | omega⟩, .inr ⟨by first | decide | omega, by first | decide | omega⟩, by first | decide | omega, .inr ⟨?_, ?_⟩, by first | decide | omega, q⟩
      · exact Int.le_trans (by first | decide | omega) (fmod_nn (by first | decide | omega))
      · exact Int.lt_trans (fmod_ltt (by first | decide | omega)) (by first | decide | omega)
    · simp only [if_neg hz] at q ⊢
      exact ⟨.inr ⟨by first | decide | omega, by first | decide | omega⟩, by first | decide | omega, q⟩
theorem whole_spec {i : Int} {Q : D → Sg → Prop} (q : Q (.bool true) σ) : mExecs X n M.whole [.val (.int i)] σ (fun fl xx σ' => (∀ b, σ b ≠ none → σ' b ≠ none) ∧ Q (flD fl) σ') := by
  simp only [M.whole, ms_cons, ms_nil, ev_nil, ev_cons, E.cst, E.var, E.bin, E.cmp, E.and_, E.not_, E.idx, E.bi, S.iff, S.asg, S.ret, q_val, f_isint, f_isbool, cond_bool, g_z, flD, keepS, true_and, if_true, not_bool]
  simpa using q

noncomputable def HasCell (X : Cx) : Prop := ∀ {n : Nat} {σ : Sg} {ns : List Int} {k : Int} {Q : D → Sg → Prop}, ns.length ≤ 63 → 0 ≤ k → k ≤ 100000 → Q (.int (cellV ns k)) σ → CallSem X (n + 1) "_law_cell" [.lst (ns.map D.int), .int k] σ Q
noncomputable def HasWhole (X : Cx) : Prop := ∀ {n : Nat} {σ : Sg} {i : Int} {Q : D → Sg → Prop}, Q (.bool true) σ → CallSem X (n + 1) "_law_whole" [.int i] σ Q
end
mutual
noncomputable def D.plain : D → Bool
  | .none => true
  | .bool _ => false
  | .int _ => true
  | .str _ => true
  | .tup ds => D.plains ds
  | .lst ds => D.plains ds
  | .ref _ => false
noncomputable def D.plains : List D → Bool
  | [] => true
  | d :: ds => D.plain d && D.plains ds
end
mutual
theorem eqv_eq : ∀ (a b : D), a.plain = true → b.plain = true → (PyData.eqv a.py b.py = true ↔ a = b)
  | .none, b, ha, hb => by cases b <;> simp [D.py, PyData.eqv, D.plain] at hb ⊢
  | .bool _, b, ha, hb => by simp [D.plain] at ha
  | .int i, b, ha, hb => by cases b <;> simp [D.py, PyData.eqv, D.plain] at hb ⊢
  | .str i, b, ha, hb => by cases b <;> simp [D.py, PyData.eqv, D.plain] at hb ⊢
  | .tup ds, b, ha, hb => by
    cases b <;> simp [D.py, PyData.eqv, D.plain] at ha hb ⊢
    exact eqvs_eq ds _ ha hb
  | .lst ds, b, ha, hb => by
    cases b <;> simp [D.py, PyData.eqv, D.plain] at ha hb ⊢
    exact eqvs_eq ds _ ha hb
  | .ref _, b, ha, hb => by simp [D.plain] at ha
theorem eqvs_eq : ∀ (as bs : List D), D.plains as = true → D.plains bs = true → (PyData.eqvAll (D.pys as) (D.pys bs) = true ↔ as = bs)
  | [], [], _, _ => by simp [D.pys, PyData.eqvAll]
  | [], _ :: _, _, _ => by simp [D.pys, PyData.eqvAll]
  | _ :: _, [], _, _ => by simp [D.pys, PyData.eqvAll]
  | a :: as, b :: bs, ha, hb => by
    simp only [D.plains, Bool.and_eq_true] at ha hb
    simp only [D.pys, PyData.eqvAll, Bool.and_eq_true, List.cons.injEq]
    rw [eqv_eq a b ha.1 hb.1, eqvs_eq as bs ha.2 hb.2]
end
theorem eqv_iff {a b : D} (ha : a.plain = true) (hb : b.plain = true) : eqv a b = true ↔ a = b := eqv_eq a b ha hb
theorem eqv_self {a : D} (ha : a.plain = true) : eqv a a = true := (eqv_iff ha ha).mpr rfl
theorem eqv_ne {a b : D} (ha : a.plain = true) (hb : b.plain = true) (h : a ≠ b) : eqv a b = false := by
  cases e : eqv a b with
  | false => rfl
  | true => exact absurd ((eqv_iff ha hb).mp e) h

theorem plains_all : ∀ {ds : List D}, (∀ d ∈ ds, d.plain = true) → D.plains ds = true
  | [], _ => by simp [D.plains]
  | d :: ds, h => by
    simp only [D.plains, Bool.and_eq_true]
    exact ⟨h d (by simp), plains_all fun x hx => h x (by simp [hx])⟩
theorem plains_ints (ns : List Int) : D.plains (ns.map D.int) = true := plains_all fun d hd => by
  obtain ⟨i, _, rfl⟩ := List.mem_map.mp hd
  simp [D.plain]
theorem plain_ints (ns : List Int) : (D.lst (ns.map D.int)).plain = true := by simp only [D.plain]; exact plains_ints ns
theorem ok_ints (n : Nat) (ns : List Int) : D.ok (n + 1) (.lst (ns.map D.int)) = true := by
  simp only [D.ok, List.all_eq_true]
  intro d hd
  obtain ⟨i, _, rfl⟩ := List.mem_map.mp hd
  cases n <;> rfl
theorem int_inj {ns ms : List Int} (h : ns.map D.int = ms.map D.int) : ns = ms := List.map_inj_right (fun xx xx h => by cases h; rfl) |>.mp h
theorem eqv_ints (ns ms : List Int) : eqv (.lst (ns.map D.int)) (.lst (ms.map D.int)) = decide (ns = ms) := by
  by_cases h : ns = ms
  · subst h; simp [eqv_self (plain_ints ns)]
  · rw [eqv_ne (plain_ints ns) (plain_ints ms) (fun e => h (int_inj (D.lst.inj e)))]
    simp [h]

theorem eqv_str (x y : Str) : eqv (.str x) (.str y) = (x == y) := rfl
theorem any_int (st : List Int) (b : Int) : ((st.map D.int).any fun y => eqv y (.int b)) = decide (b ∈ st) := by
  rw [Bool.eq_iff_iff]
  simp only [List.any_eq_true, List.mem_map, decide_eq_true_eq]
  constructor
  · rintro ⟨x, ⟨i, hi, rfl⟩, h⟩
    rw [eqv_int] at h
    simp only [decide_eq_true_eq] at h
    exact h ▸ hi
  · intro h
    exact ⟨.int b, ⟨b, h, rfl⟩, by rw [eqv_int]; simp⟩
noncomputable def M.most_b : List S := [.iff (.cmp .gt (.idx (.var 0) (.var 3)) (.idx (.var 0) (.var 2))) [.asg 2 (.var 3)] []]
noncomputable def M.most : List S := [.asg 2 (.idx (.var 1) (.cst (.int 0))), .for_ [3] (.seq (.var 1)) M.most_b, .ret (.var 2)]
noncomputable def M.least_b : List S := [.iff (.cmp .le (.idx (.var 0) (.var 3)) (.idx (.var 0) (.var 2))) [.asg 2 (.var 3)] []]
noncomputable def M.least : List S := [.asg 2 (.idx (.var 1) (.cst (.int 0))), .for_ [3] (.seq (.var 1)) M.least_b, .ret (.var 2)]
noncomputable def M.deed : List S :=
  [.iff (.cmp .lt (.var 2) (.cst (.int 1))) [.ret (.cst .none)] [],
    .asg 4 (.call "most_held" [(.var 0), (.var 1)]),
    .iff (.or_ (.cmp .le (.bi .len [(.var 1)]) (.var 2)) (.cmp .ge (.idx (.var 0) (.var 4)) (.var 3))) [.ret (.tupE [(.cst (.str "seated")), (.var 4)])] [],
    .ret (.tupE [(.cst (.str "out")), (.call "least_held" [(.var 0), (.var 1)])])]

noncomputable def hold (hs : List Int) (c : Int) : Int := hs.getD c.toNat 0
structure Stand (k : Nat) (st : List Int) : Prop where
  rise : st.Pairwise (· < ·)
  inn : ∀ c ∈ st, 0 ≤ c ∧ c < k
  ne : st ≠ []
noncomputable def IsMost (hs st : List Int) (b : Int) : Prop := b ∈ st ∧ ∀ c ∈ st, hold hs c < hold hs b ∨ (hold hs c = hold hs b ∧ b ≤ c)
noncomputable def IsLeast (hs st : List Int) (b : Int) : Prop := b ∈ st ∧ ∀ c ∈ st, hold hs b < hold hs c ∨ (hold hs c = hold hs b ∧ c ≤ b)

theorem rise_le {st : List Int} (h : st.Pairwise (· < ·)) {i j : Nat} (hi : i < st.length) (hj : j < st.length) (hij : i ≤ j) : st[i] ≤ st[j] := by
  rcases Nat.lt_or_ge i j with h1 | h1
  · exact Int.le_of_lt (List.pairwise_iff_getElem.mp h i j hi hj h1)
  · have : i = j := by first | decide | omega
    subst this; exact Int.le_refl _

section
variable {X : Cx} {n : Nat} {σ : Sg}

set_option tactic.hygienic true in
theorem most_spec {hs st : List Int} {Q : D → Sg → Prop} (hl : hs.length ≤ 1000) (hst : Stand hs.length st) (q : ∀ b, IsMost hs st b → Q (.int b) σ) :
    mExecs X n M.most [.val (.lst (hs.map D.int)), .val (.lst (st.map D.int)), .unb, .unb] σ (fun fl xx σ' => (∀ b, σ b ≠ none → σ' b ≠ none) ∧ Q (flD fl) σ') := by
  have h0 : 0 < st.length := List.length_pos_iff.mpr hst.ne
  simp only [M.most]
  rw [ms_cons]
  simp only [E.cst, E.var, E.idx, S.asg, q_val, i_ints, flD, g_z, g_s, List.set_cons_zero, List.set_cons_succ]
  refine ⟨by first | decide | omega, by first | decide | omega, by first | decide | omega, ?_⟩
  rw [ms_cons]
  simp only [E.var, It.seq, S.for_, q_val, q_one, g_z, g_s, List.length_cons, List.length_nil, Nat.zero_add]
  refine for_inv (fun j ρ σ' => σ' = σ ∧ ∃ i a, ∃ hi : i < st.length, i ≤ j ∧ (∀ c ∈ st.take j, hold hs c < hold hs st[i] ∨ (hold hs c = hold hs st[i] ∧ st[i] ≤ c)) ∧ ρ = [.val (.lst (hs.map D.int)), .val (.lst (st.map D.int)), .val (.int st[i]), a]) ?_ ?_ ?_
  · refine ⟨rfl, 0, .unb, h0, by first | decide | omega, by simp, ?_⟩
    have : st.getD (Int.toNat 0) 0 = st[0] := by simp [List.getD, h0]
    rw [this]
  · rintro j hj ρ σ' ⟨rfl, i, a, hi, hij, hm, rfl⟩
    simp only [List.length_map] at hj
    have c1 := hst.inn st[j] (List.getElem_mem hj)
    have c2 := hst.inn st[i] (List.getElem_mem hi)
    simp only [List.getElem_map, M.most_b]
    rw [ms_cons]
    simp only [E.var, E.cmp, E.idx, S.iff, q_val, c_gt, cond_bool, i_ints, setAll, g_z, g_s, List.set_cons_zero, List.set_cons_succ, true_and, decide_eq_true_eq, ms_nil]
    refine ⟨by first | decide | with_reducible exact And.left ‹_› | omega, by first | decide | with_reducible exact oos ‹_› ‹_› | omega, by first | decide | with_reducible exact And.right ‹_› | omega, by first | decide | with_reducible exact And.left ‹_› | omega, by first | decide | with_reducible exact oos ‹_› ‹_› | omega, by first | decide | with_reducible exact And.right ‹_› | omega, ?_⟩
    have ht : st.take (j + 1) = st.take j ++ [st[j]] := List.take_succ_eq_append_getElem hj
    split
    · rename_i hg
      rw [ms_cons]
      simp only [E.var, S.asg, q_val, g_z, g_s, List.set_cons_zero, List.set_cons_succ, true_and, ms_nil]
      refine ⟨j, _, hj, by first | decide | with_reducible exact Nat.le_succ _ | omega, fun c hc => ?_, rfl⟩
      rw [ht] at hc
      rcases List.mem_append.mp hc with hc | hc
      · left
        have hg' : hold hs st[i] < hold hs st[j] := hg
        rcases hm c hc with h | h <;> omega
      · rw [List.mem_singleton.mp hc]; right; omega
    · rename_i hg
      refine ⟨i, _, hi, by first | decide | omega, fun c hc => ?_, rfl⟩
      rw [ht] at hc
      rcases List.mem_append.mp hc with hc | hc
      · exact hm c hc
      · rw [List.mem_singleton.mp hc]
        have hg' : ¬ hold hs st[i] < hold hs st[j] := hg
        have := rise_le hst.rise hi hj hij
        omega
  · rintro ρ σ' ⟨rfl, i, a, hi, hij, hm, rfl⟩
    rw [ms_cons]
    simp only [E.var, S.ret, q_val, keepS, g_z, g_s, true_and, ms_nil]
    simp only [List.length_map, List.take_length] at hm
    exact q _ ⟨List.getElem_mem hi, hm⟩

set_option tactic.hygienic true in
theorem least_spec {hs st : List Int} {Q : D → Sg → Prop} (hl : hs.length ≤ 1000) (hst : Stand hs.length st) (q : ∀ b, IsLeast hs st b → Q (.int b) σ) :
    mExecs X n M.least [.val (.lst (hs.map D.int)), .val (.lst (st.map D.int)), .unb, .unb] σ (fun fl xx σ' => (∀ b, σ b ≠ none → σ' b ≠ none) ∧ Q (flD fl) σ') := by
  have h0 : 0 < st.length := List.length_pos_iff.mpr hst.ne
  simp only [M.least]
  rw [ms_cons]
  simp only [E.cst, E.var, E.idx, S.asg, q_val, i_ints, flD, g_z, g_s, List.set_cons_zero, List.set_cons_succ]
  refine ⟨by first | decide | omega, by first | decide | omega, by first | decide | omega, ?_⟩
  rw [ms_cons]
  simp only [E.var, It.seq, S.for_, q_val, q_one, g_z, g_s, List.length_cons, List.length_nil, Nat.zero_add]
  refine for_inv (fun j ρ σ' => σ' = σ ∧ ∃ i a, ∃ hi : i < st.length, i ≤ j ∧ (∀ c ∈ st.take j, hold hs st[i] < hold hs c ∨ (hold hs c = hold hs st[i] ∧ c ≤ st[i])) ∧ ρ = [.val (.lst (hs.map D.int)), .val (.lst (st.map D.int)), .val (.int st[i]), a]) ?_ ?_ ?_
  · refine ⟨rfl, 0, .unb, h0, by first | decide | omega, by simp, ?_⟩
    have : st.getD (Int.toNat 0) 0 = st[0] := by simp [List.getD, h0]
    rw [this]
  · rintro j hj ρ σ' ⟨rfl, i, a, hi, hij, hm, rfl⟩
    simp only [List.length_map] at hj
    have c1 := hst.inn st[j] (List.getElem_mem hj)
    have c2 := hst.inn st[i] (List.getElem_mem hi)
    simp only [List.getElem_map, M.least_b]
    rw [ms_cons]
    simp only [E.var, E.cmp, E.idx, S.iff, q_val, c_le, cond_bool, i_ints, setAll, g_z, g_s, List.set_cons_zero, List.set_cons_succ, true_and, decide_eq_true_eq, ms_nil]
    refine ⟨by first | decide | with_reducible exact And.left ‹_› | omega, by first | decide | with_reducible exact oos ‹_› ‹_› | omega, by first | decide | with_reducible exact And.right ‹_› | omega, by first | decide | with_reducible exact And.left ‹_› | omega, by first | decide | with_reducible exact oos ‹_› ‹_› | omega, by first | decide | with_reducible exact And.right ‹_› | omega, ?_⟩
    have ht : st.take (j + 1) = st.take j ++ [st[j]] := List.take_succ_eq_append_getElem hj
    split
    · rename_i hg
      have hg' : hold hs st[j] ≤ hold hs st[i] := hg
      rw [ms_cons]
      simp only [E.var, S.asg, q_val, g_z, g_s, List.set_cons_zero, List.set_cons_succ, true_and, ms_nil]
      refine ⟨j, _, hj, by first | decide | with_reducible exact Nat.le_succ _ | omega, fun c hc => ?_, rfl⟩
      rw [ht] at hc
      rcases List.mem_append.mp hc with hc | hc
      · obtain ⟨m, hm1, hm2⟩ := List.getElem_of_mem hc
        have hlt : m < j := by simp at hm1; omega
        have : c ≤ st[j] := by
          rw [← hm2, List.getElem_take]
          exact rise_le hst.rise (by first | decide | with_reducible exact Nat.lt_trans ‹_› ‹_› | omega) hj (by first | decide | with_reducible exact Nat.le_of_lt ‹_› | omega)
        rcases hm c hc with h | h <;> omega
      · rw [List.mem_singleton.mp hc]; right; omega
    · rename_i hg
      have hg' : ¬ hold hs st[j] ≤ hold hs st[i] := hg
      refine ⟨i, _, hi, by first | decide | omega, fun c hc => ?_, rfl⟩
      rw [ht] at hc
      rcases List.mem_append.mp hc with hc | hc
      · exact hm c hc
      · rw [List.mem_singleton.mp hc]
        left; omega
  · rintro ρ σ' ⟨rfl, i, a, hi, hij, hm, rfl⟩
    rw [ms_cons]
    simp only [E.var, S.ret, q_val, keepS, g_z, g_s, true_and, ms_nil]
    simp only [List.length_map, List.take_length] at hm
    exact q _ ⟨List.getElem_mem hi, hm⟩

noncomputable def HasMost (X : Cx) : Prop := ∀ {n : Nat} {σ : Sg} {hs st : List Int} {Q : D → Sg → Prop}, hs.length ≤ 1000 → Stand hs.length st → (∀ b, IsMost hs st b → Q (.int b) σ) → CallSem X (n + 1) "most_held" [.lst (hs.map D.int), .lst (st.map D.int)] σ Q
noncomputable def HasLeast (X : Cx) : Prop := ∀ {n : Nat} {σ : Sg} {hs st : List Int} {Q : D → Sg → Prop}, hs.length ≤ 1000 → Stand hs.length st → (∀ b, IsLeast hs st b → Q (.int b) σ) → CallSem X (n + 1) "least_held" [.lst (hs.map D.int), .lst (st.map D.int)] σ Q

noncomputable def IsDeed (hs st : List Int) (seats many : Int) (d : D) : Prop :=
  if seats < 1 then d = .none
  else ∃ b, IsMost hs st b ∧ if (st.length : Int) ≤ seats ∨ many ≤ hold hs b then d = .tup [.str "seated", .int b] else ∃ w, IsLeast hs st w ∧ d = .tup [.str "out", .int w]

set_option tactic.hygienic true in
theorem deed_spec (hM : HasMost X) (hL : HasLeast X) {hs st : List Int} {seats many : Int} {Q : D → Sg → Prop} (hl : hs.length ≤ 1000) (hsl : st.length ≤ 1000) (hst : seats < 1 ∨ Stand hs.length st) (q : ∀ d, IsDeed hs st seats many d → Q d σ) :
    mExecs X (n + 1) M.deed [.val (.lst (hs.map D.int)), .val (.lst (st.map D.int)), .val (.int seats), .val (.int many), .unb] σ (fun fl xx σ' => (∀ b, σ b ≠ none → σ' b ≠ none) ∧ Q (flD fl) σ') := by
  simp only [M.deed]
  rw [ms_cons]
  simp only [E.cst, E.var, E.cmp, S.iff, q_val, c_lt, cond_bool, flD, g_z, g_s, decide_eq_true_eq, ms_nil]
  split
  · rename_i h
    rw [ms_cons]
    simp only [E.cst, S.ret, keepS, true_and, ms_nil]
    exact q _ (by simp [IsDeed, h])
  · rename_i h
    have hst := hst.resolve_left h
    rw [ms_cons]
    simp only [ev_nil, ev_cons, E.var, E.call, S.asg, q_val, g_z, g_s, List.set_cons_zero, List.set_cons_succ]
    refine hM hl hst fun b hb => ?_
    have hbin := hst.inn b hb.1
    rw [ms_cons]
    simp only [ev_nil, ev_cons, E.var, E.cmp, E.or_, E.idx, E.bi, S.iff, q_val, c_le, c_ge, cond_bool, i_ints, f_len, g_z, g_s, List.length_map, decide_eq_true_eq, ms_nil, if_true]
    refine ⟨by first | decide | with_reducible exact oo3 ‹_› | omega, ?_⟩
    split
    · rename_i h1
      rw [ms_cons]
      simp only [ev_nil, ev_cons, E.cst, E.var, E.tupE, S.ret, q_val, keepS, g_z, g_s, List.length_cons, List.length_nil, Nat.zero_add, true_and, ms_nil]
      refine ⟨by first | decide | omega, q _ ?_⟩
      simp only [IsDeed, if_neg h]
      exact ⟨b, hb, by rw [if_pos (.inl h1)]⟩
    · rename_i h1
      refine ⟨by first | decide | with_reducible exact And.left ‹_› | omega, by first | decide | with_reducible exact oos ‹_› ‹_› | omega, by first | decide | with_reducible exact And.right ‹_› | omega, ?_⟩
      split
      · rename_i h2
        rw [ms_cons]
        simp only [ev_nil, ev_cons, E.cst, E.var, E.tupE, S.ret, q_val, keepS, g_z, g_s, List.length_cons, List.length_nil, Nat.zero_add, true_and, ms_nil]
        refine ⟨by first | decide | omega, q _ ?_⟩
        simp only [IsDeed, if_neg h]
        exact ⟨b, hb, by rw [if_pos (.inr h2)]⟩
      · rename_i h2
        rw [ms_cons]
        simp only [ev_nil, ev_cons, E.cst, E.var, E.tupE, E.call, S.ret, q_val, g_z, g_s, List.length_cons, List.length_nil, Nat.zero_add, ms_nil]
        refine hL hl hst fun w hw => ⟨by first | decide | omega, keepS.mpr trivial, q _ ?_⟩
        simp only [IsDeed, if_neg h]
        exact ⟨b, hb, by rw [if_neg (fun z => z.elim h1 h2)]; exact ⟨w, hw, rfl⟩⟩
end
theorem erase_map (l : List Int) (i : Nat) : (l.map D.int).eraseIdx i = (l.eraseIdx i).map D.int := by
  induction l generalizing i with
  | nil => rfl
  | cons a l ih =>
    cases i with
    | zero => rfl
    | succ i => simp [ih]
theorem erase_perm : ∀ (l : List Int) (i : Nat) (h : i < l.length), (l[i] :: l.eraseIdx i).Perm l
  | a :: l, 0, _ => .refl _
  | a :: l, i + 1, h => by
    have := erase_perm l i (by simpa using h)
    exact (List.Perm.swap _ _ _).trans (this.cons a)

noncomputable def dB (B : List (Int × List Int)) : List D := B.map fun b => .tup [.int b.1, .lst (b.2.map D.int)]
structure RowOk (k : Nat) (r : List Int) : Prop where
  nd : r.Nodup
  inn : ∀ c ∈ r, 0 ≤ c ∧ c < k
structure Bal (k : Nat) (B : List (Int × List Int)) : Prop where
  len : B.length ≤ 40
  wt : ∀ b ∈ B, 1 ≤ b.1 ∧ b.1 ≤ 1000000000
  row : ∀ b ∈ B, RowOk k b.2

theorem RowOk.len {k : Nat} {r : List Int} (h : RowOk k r) : r.length ≤ k := by
  have key : ∀ (k : Nat) (r : List Int), r.Nodup → (∀ c ∈ r, 0 ≤ c ∧ c < (k : Int)) → r.length ≤ k := by
    intro k
    induction k with
    | zero =>
      intro r _ hin
      cases r with
      | nil => simp
      | cons c r => have := hin c (by simp); omega
    | succ k ih =>
      intro r nd hin
      have h1 := ih (r.erase (k : Int)) (nd.erase _) fun c hc => by
        have hm := List.mem_of_mem_erase hc
        have := hin c hm
        have hne : c ≠ k := fun e => by
          subst e
          exact absurd hc (by rw [List.Nodup.mem_erase_iff nd]; simp)
        omega
      have h2 : r.length ≤ (r.erase (k : Int)).length + 1 := by
        rw [List.length_erase]
        split <;> omega
      omega
  exact key k r h.nd h.inn

noncomputable def M.row_b : List S :=
  [.asg 3 (.bin .mod (.bin .add (.bin .mul (.var 3) (.cst (.int 48271))) (.cst (.int 11))) (.cst (.int 2147483647))),
    .iff (.borrow [2] (.cmp .ne (.var 2) (.lst (.disp []))))
      [.appPop 4 2 (.borrow [2] (.bin .mod (.bin .fdiv (.var 3) (.cst (.int 7))) (.bi .len [(.var 2)])))]
      []]
noncomputable def M.row : List S :=
  [.asgM 2 (.ofSeq (.range (.var 1))),
    .asg 3 (.bin .add (.cst (.int 1)) (.bin .mod (.var 0) (.cst (.int 2147483646)))),
    .asgM 4 (.disp []),
    .for_ [5] (.range (.bin .mod (.var 3) (.bin .add (.var 1) (.cst (.int 2))))) M.row_b,
    .freeze 4,
    .ret (.var 4)]
noncomputable def M.weight : List S :=
  [.ret (.bin .add (.cst (.int 1)) (.bin .mod (.var 0) (.idx (.lst (.disp [(.cst (.int 1)), (.cst (.int 4)), (.cst (.int 100)), (.cst (.int 1000000000))])) (.var 1))))]
noncomputable def M.candidates : List S :=
  [.iff (.cmp .eq (.bin .mod (.bin .fdiv (.call "_law_cell" [(.var 0), (.cst (.int 0))]) (.cst (.int 6))) (.cst (.int 8))) (.cst (.int 1)))
      [.ret (.bin .add (.cst (.int 1)) (.bin .mod (.bin .fdiv (.call "_law_cell" [(.var 0), (.cst (.int 0))]) (.cst (.int 48))) (.cst (.int 12))))]
      [],
    .ret (.bin .add (.cst (.int 1)) (.bin .mod (.call "_law_cell" [(.var 0), (.cst (.int 0))]) (.cst (.int 6))))]

theorem i_four {a b c d k : Int} {Q : D → Prop} (h0 : 0 ≤ k) (h1 : k < 4) (q : ∀ m, (m = a ∨ m = b ∨ m = c ∨ m = d) → Q (.int m)) : idxT (.lst [.int a, .int b, .int c, .int d]) (.int k) Q := by
  rw [i_lst]
  refine ⟨h0, by first | decide | omega, ?_⟩
  have : k = 0 ∨ k = 1 ∨ k = 2 ∨ k = 3 := by first | decide | omega
  rcases this with rfl | rfl | rfl | rfl
  · exact ⟨_, rfl, q _ (.inl rfl)⟩
  · exact ⟨_, rfl, q _ (.inr (.inl rfl))⟩
  · exact ⟨_, rfl, q _ (.inr (.inr (.inl rfl)))⟩
  · exact ⟨_, rfl, q _ (.inr (.inr (.inr rfl)))⟩

section
variable {X : Cx} {n : Nat} {σ : Sg}

theorem weight_spec {c k : Int} {Q : D → Sg → Prop} (h0 : 0 ≤ k) (h1 : k < 4) (q : ∀ w, 1 ≤ w → w ≤ 1000000000 → Q (.int w) σ) :
    mExecs X n M.weight [.val (.int c), .val (.int k)] σ (fun fl xx σ' => (∀ b, σ b ≠ none → σ' b ≠ none) ∧ Q (flD fl) σ') := by
  simp only [M.weight]
  rw [ms_cons]
  simp only [ev_nil, ev_cons, E.cst, E.var, E.bin, E.lst, E.idx, L.disp, S.ret, q_val, keepS, flD, g_z, g_s, List.length_cons, List.length_nil, Nat.zero_add, true_and, ms_nil]
  refine ⟨by first | decide | omega, i_four h0 h1 fun m hm => ?_⟩
  have hm0 : 0 < m ∧ m ≤ 1000000000 := by rcases hm with rfl | rfl | rfl | rfl <;> omega
  simp only [b_add, b_mod]
  have a0 := fmod_nn (a := c) hm0.1
  have a1 := fmod_ltt (a := c) hm0.1
  exact ⟨by first | decide | omega, q _ (by first | decide | omega) (by first | decide | omega)⟩

theorem candidates_spec (hC : HasCell X) {ns : List Int} {Q : D → Sg → Prop} (hl : ns.length ≤ 63) (q : ∀ k : Nat, 1 ≤ k → k ≤ 12 → Q (.int k) σ) :
    mExecs X (n + 1) M.candidates [.val (.lst (ns.map D.int))] σ (fun fl xx σ' => (∀ b, σ b ≠ none → σ' b ≠ none) ∧ Q (flD fl) σ') := by
  have fin : ∀ c : Int, 1 ≤ c → c ≤ 12 → Q (.int c) σ := fun c h0 h1 => by
    have := q c.toNat (by first | decide | omega) (by first | decide | omega)
    rwa [Int.toNat_of_nonneg (by first | decide | with_reducible exact oop ‹_› | omega)] at this
  simp only [M.candidates]
  rw [ms_cons]
  simp only [ev_nil, ev_cons, E.cst, E.var, E.bin, E.cmp, E.call, S.iff, q_val, cond_bool, flD, g_z, ms_nil]
  refine hC hl (by first | decide | omega) (by first | decide | omega) ?_
  simp only [b_div, b_mod, c_eq, decide_eq_true_eq]
  refine ⟨by first | decide | omega, ⟨by first | decide | omega, by first | decide | omega⟩, by first | decide | omega, ?_⟩
  split
  · rw [ms_cons]
    simp only [ev_nil, ev_cons, E.cst, E.var, E.bin, E.call, S.ret, q_val, g_z, ms_nil]
    refine hC hl (by first | decide | omega) (by first | decide | omega) ?_
    simp only [b_add, b_div, b_mod, keepS, true_and]
    have a0 := fmod_nn (a := (cellV ns 0).fdiv 48) (b := 12) (by first | decide | omega)
    have a1 := fmod_ltt (a := (cellV ns 0).fdiv 48) (b := 12) (by first | decide | omega)
    exact ⟨by first | decide | omega, ⟨by first | decide | omega, by first | decide | omega⟩, by first | decide | omega, fin _ (by first | decide | omega) (by first | decide | omega)⟩
  · rw [ms_cons]
    simp only [ev_nil, ev_cons, E.cst, E.var, E.bin, E.call, S.ret, q_val, g_z, ms_nil]
    refine hC hl (by first | decide | omega) (by first | decide | omega) ?_
    simp only [b_add, b_mod, keepS, true_and]
    have a0 := fmod_nn (a := cellV ns 0) (b := 6) (by first | decide | omega)
    have a1 := fmod_ltt (a := cellV ns 0) (b := 6) (by first | decide | omega)
    exact ⟨by first | decide | omega, fin _ (by first | decide | omega) (by first | decide | omega)⟩

set_option tactic.hygienic true in
theorem row_spec {c : Int} {k : Nat} {Q : D → Sg → Prop} (hk : k ≤ 100) (q : ∀ r, RowOk k r → Q (.lst (r.map D.int)) σ) :
    mExecs X n M.row [.val (.int c), .val (.int k), .unb, .unb, .unb, .unb] σ (fun fl xx σ' => (∀ b, σ b ≠ none → σ' b ≠ none) ∧ Q (flD fl) σ') := by
  simp only [M.row]
  rw [ms_cons]
  simp only [E.var, L.ofSeq, It.range, S.asgM, q_val, q_int, flD, g_z, g_s, List.set_cons_zero, List.set_cons_succ, List.length_map, true_and]
  refine ⟨by first | decide | with_reducible exact oo2 _ | omega, by first | decide | with_reducible exact oo5 ‹_› | omega, by simp; (first | with_reducible exact oo3 ‹_› | omega), ?_⟩
  have e : List.map (fun r => r.headD D.none) (List.map (fun (j : Nat) => [D.int (j : Int)]) (List.range (k : Int).toNat)) = ((List.range k).map fun (j : Nat) => (j : Int)).map D.int := by
    rw [List.map_map, List.map_map, Int.toNat_natCast]
    rfl
  rw [e]
  rw [ms_cons]
  simp only [E.cst, E.var, E.bin, S.asg, q_val, b_add, b_mod, g_z, List.set_cons_zero, List.set_cons_succ]
  refine ⟨by first | decide | omega, ?_⟩
  rw [ms_cons]
  simp only [ev_nil, L.disp, S.asgM, List.set_cons_zero, List.set_cons_succ, List.length_nil]
  refine ⟨by first | decide | omega, ?_⟩
  have s0 := fmod_nn (a := c) (b := 2147483646) (by first | decide | omega)
  have s1 := fmod_ltt (a := c) (b := 2147483646) (by first | decide | omega)
  rw [ms_cons]
  simp only [E.cst, E.var, E.bin, It.range, S.for_, q_val, q_int, b_add, b_mod, g_z, g_s, List.length_cons, List.length_nil, Nat.zero_add, true_and]
  have t0 := fmod_nn (a := 1 + c.fmod 2147483646) (b := (k : Int) + 2) (by first | decide | omega)
  have t1 := fmod_ltt (a := 1 + c.fmod 2147483646) (b := (k : Int) + 2) (by first | decide | omega)
  refine ⟨by first | decide | omega, by first | decide | omega, by first | decide | omega, ?_⟩
  have nd0 : ((List.range k).map fun (j : Nat) => (j : Int)).Nodup := by
    rw [List.nodup_iff_pairwise_ne, List.pairwise_map]
    exact (List.nodup_iff_pairwise_ne.mp List.nodup_range).imp fun h e => h (by first | decide | omega)
  have in0 : ∀ x ∈ ((List.range k).map fun (j : Nat) => (j : Int)), 0 ≤ x ∧ x < (k : Int) := fun x hx => by
    obtain ⟨j, hj, rfl⟩ := List.mem_map.mp hx
    have := List.mem_range.mp hj
    omega
  refine for_inv (fun j ρ σ' => σ' = σ ∧ ∃ (s : Int) (a : MV) (row left : List Int), ρ = [.val (.int c), .val (.int k), .mt (left.map D.int), .val (.int s), .mt (row.map D.int), a] ∧ 0 ≤ s ∧ s < 2147483648 ∧ RowOk k (row ++ left)) ?_ ?_ ?_
  · exact ⟨rfl, _, .unb, [], _, rfl, by first | decide | omega, by first | decide | omega, by simpa using nd0, by simpa using in0⟩
  · rintro j hj ρ σ' ⟨rfl, s, a, row, left, rfl, hs0, hs1, hrow⟩
    have hlen := hrow.len
    simp only [List.length_append] at hlen
    simp only [List.getElem_map, M.row_b]
    rw [ms_cons]
    simp only [E.cst, E.var, E.bin, S.asg, q_val, b_add, b_mul, b_mod, setAll, g_z, g_s, List.set_cons_zero, List.set_cons_succ]
    have u0 := fmod_nn (a := s * 48271 + 11) (b := 2147483647) (by first | decide | omega)
    have u1 := fmod_ltt (a := s * 48271 + 11) (b := 2147483647) (by first | decide | omega)
    refine ⟨.inr ⟨by first | decide | omega, by first | decide | omega⟩, by first | decide | omega, ?_⟩
    rw [ms_cons]
    simp only [ev_nil, E.var, E.cmp, E.lst, E.borrow, L.disp, S.iff, q_val, cond_bool, frzAll, at_b, g_z, g_s, List.set_cons_zero, List.set_cons_succ, List.length_nil, true_and, ms_nil]
    have e2 := eqv_ints left []
    simp only [List.map_nil] at e2
    simp only [c_nex, e2]
    refine ⟨by first | decide | omega, ok_ints 7 left, rfl, ?_⟩
    simp only [Bool.not_eq_true', decide_eq_false_iff_not]
    split
    · rename_i hne
      have hpos : 0 < left.length := List.length_pos_iff.mpr hne
      rw [ms_cons]
      simp only [ev_nil, ev_cons, E.cst, E.var, E.bin, E.bi, E.borrow, S.appPop, q_val, q_mt, q_int, b_div, b_mod, f_len, frzAll, at_i, g_z, g_s, List.set_cons_zero, List.set_cons_succ, List.length_map, true_and, ms_nil]
      refine ⟨by first | decide | omega, by first | decide | omega, by first | decide | omega, by first | decide | omega, ⟨by first | decide | omega, by first | decide | omega⟩, by first | decide | omega, by first | decide | omega, ?_⟩
      generalize hi : ((s * 48271 + 11).fmod 2147483647).fdiv 7 = v
      have v0 := fmod_nn (a := v) (b := (left.length : Int)) (by first | decide | omega)
      have v1 := fmod_ltt (a := v) (b := (left.length : Int)) (by first | decide | omega)
      have hlt : (v.fmod left.length).toNat < left.length := by first | decide | omega
      refine ⟨.int (left[(v.fmod left.length).toNat]), v0, by simp [hlt], ?_⟩
      have e3 : (left.map D.int).eraseIdx (v.fmod left.length).toNat = (left.eraseIdx (v.fmod left.length).toNat).map D.int := erase_map _ _
      have e4 : row.map D.int ++ [.int left[(v.fmod left.length).toNat]] = (row ++ [left[(v.fmod left.length).toNat]]).map D.int := by simp
      rw [e3, e4]
      refine ⟨_, _, row ++ [left[(v.fmod left.length).toNat]], left.eraseIdx (v.fmod left.length).toNat, rfl, u0, by first | decide | omega, ?_⟩
      · have hp : (row ++ [left[(v.fmod left.length).toNat]] ++ left.eraseIdx (v.fmod left.length).toNat).Perm (row ++ left) := by
          rw [List.append_assoc]
          exact List.Perm.append_left _ (erase_perm _ _ hlt)
        exact ⟨hp.nodup_iff.mpr hrow.nd, fun x hx => hrow.inn x (hp.mem_iff.mp hx)⟩
    · exact ⟨_, _, row, left, rfl, u0, by first | decide | omega, hrow⟩
  · rintro ρ σ' ⟨rfl, s, a, row, left, rfl, hs0, hs1, hrow⟩
    rw [ms_cons]
    simp only [S.freeze, q_mt, g_z, g_s, List.set_cons_zero, List.set_cons_succ]
    rw [ms_cons]
    simp only [E.var, S.ret, q_val, keepS, g_z, g_s, true_and, ms_nil]
    exact q row ⟨(List.nodup_append.mp hrow.nd).1, fun x hx => hrow.inn x (by simp [hx])⟩
end
noncomputable def HasWeight (X : Cx) : Prop := ∀ {n : Nat} {σ : Sg} {c k : Int} {Q : D → Sg → Prop}, 0 ≤ k → k < 4 → (∀ w, 1 ≤ w → w ≤ 1000000000 → Q (.int w) σ) → CallSem X (n + 1) "_law_weight" [.int c, .int k] σ Q
noncomputable def HasRow (X : Cx) : Prop := ∀ {n : Nat} {σ : Sg} {c : Int} {k : Nat} {Q : D → Sg → Prop}, k ≤ 100 → (∀ r, RowOk k r → Q (.lst (r.map D.int)) σ) → CallSem X (n + 1) "_law_row" [.int c, .int k] σ Q

noncomputable def M.bal_p : E := (.cmp .ne (.lst (.disp [(.var 8)])) (.lst (.upto (.idx (.idx (.var 4) (.cst (.int 0))) (.cst (.int 1))) (.cst (.int 1)))))
noncomputable def M.bal_e : E := (.var 8)
noncomputable def M.bal_b : List S :=
  [.asg 6 (.call "_law_weight" [(.call "_law_cell" [(.var 0), (.bin .add (.cst (.int 6)) (.bin .mul (.cst (.int 2)) (.var 5)))]), (.var 3)]),
    .asg 7 (.call "_law_row" [(.call "_law_cell" [(.var 0), (.bin .add (.cst (.int 7)) (.bin .mul (.cst (.int 2)) (.var 5)))]), (.var 1)]),
    .iff (.borrow [4] (.and_ (.cmp .eq (.bin .mod (.call "_law_cell" [(.var 0), (.cst (.int 3))]) (.cst (.int 5))) (.cst (.int 1))) (.and_ (.cmp .gt (.bi .len [(.var 4)]) (.cst (.int 0))) (.cmp .gt (.bi .len [(.var 7)]) (.cst (.int 1))))))
      [.asgM 7 (.borrow [4] (.cat (.lst (.upto (.idx (.idx (.var 4) (.cst (.int 0))) (.cst (.int 1))) (.cst (.int 1)))) (.lst (.comp M.bal_e [8] (.seq (.var 7)) (some M.bal_p))))),
      .freeze 7]
      [],
    .app 4 (.tupE [(.var 6), (.var 7)])]
noncomputable def M.ballots : List S :=
  [.asg 2 (.bin .mod (.call "_law_cell" [(.var 0), (.cst (.int 1))]) (.cst (.int 9))),
    .iff (.cmp .eq (.bin .mod (.bin .fdiv (.call "_law_cell" [(.var 0), (.cst (.int 1))]) (.cst (.int 9))) (.cst (.int 8))) (.cst (.int 1)))
      [.asg 2 (.bin .mod (.bin .fdiv (.call "_law_cell" [(.var 0), (.cst (.int 1))]) (.cst (.int 72))) (.cst (.int 41)))]
      [],
    .asg 3 (.bin .mod (.call "_law_cell" [(.var 0), (.cst (.int 2))]) (.cst (.int 4))),
    .asgM 4 (.disp []),
    .for_ [5] (.range (.var 2)) M.bal_b,
    .freeze 4,
    .ret (.var 4)]
section
variable {X : Cx} {n : Nat} {σ : Sg}

theorem mixed {k : Nat} {r0 r : List Int} (h0 : RowOk k r0) (h : RowOk k r) : RowOk k (r0.take 1 ++ r.filter fun c => decide (¬ [c] = r0.take 1)) := by
  cases r0 with
  | nil =>
    refine ⟨?_, fun c hc => ?_⟩
    · simp only [List.take_nil, List.nil_append]
      exact h.nd.filter _
    · simp only [List.take_nil, List.nil_append, List.mem_filter] at hc
      exact h.inn c hc.1
  | cons a r0 =>
    refine ⟨?_, fun c hc => ?_⟩
    · simp only [List.take_succ_cons, List.take_zero, List.singleton_append, List.nodup_cons, List.mem_filter]
      exact ⟨by simp, h.nd.filter _⟩
    · simp only [List.take_succ_cons, List.take_zero, List.singleton_append, List.mem_cons, List.mem_filter] at hc
      rcases hc with rfl | hc
      · exact h0.inn _ (by simp)
      · exact h.inn c hc.1

set_option tactic.hygienic true in
theorem bal_turn (hC : HasCell X) (hW : HasWeight X) (hR : HasRow X) {ns : List Int} {k : Nat} {many kind : Int} {B : List (Int × List Int)} {j : Nat} {a6 a7 : MV} {Q : Fl → List MV → Sg → Prop} (hl : ns.length ≤ 63) (hk : k ≤ 100) (hj : j ≤ 100) (h0 : 0 ≤ kind) (h1 : kind < 4)
    (hB : B.length ≤ 100) (hrow : ∀ b ∈ B, RowOk k b.2) (q : ∀ w r, 1 ≤ w → w ≤ 1000000000 → RowOk k r → Q .next [.val (.lst (ns.map D.int)), .val (.int k), .val (.int many), .val (.int kind), .mt (dB (B ++ [(w, r)])), .val (.int j), .val (.int w), .val (.lst (r.map D.int)), .unb] σ) :
    mExecs X (n + 1) M.bal_b [.val (.lst (ns.map D.int)), .val (.int k), .val (.int many), .val (.int kind), .mt (dB B), .val (.int j), a6, a7, .unb] σ Q := by
  simp only [M.bal_b]
  rw [ms_cons]
  simp only [ev_nil, ev_cons, E.cst, E.var, E.bin, E.call, S.asg, q_val, b_add, b_mul, g_z, g_s, List.set_cons_zero, List.set_cons_succ]
  refine ⟨.inl ⟨by first | decide | omega, by first | decide | omega⟩, hC hl (by first | decide | omega) (by first | decide | omega) (hW h0 h1 fun w hw0 hw1 => ?_)⟩
  rw [ms_cons]
  simp only [ev_nil, ev_cons, E.cst, E.var, E.bin, E.call, S.asg, q_val, b_add, b_mul, g_z, g_s, List.set_cons_zero, List.set_cons_succ]
  refine ⟨.inl ⟨by first | decide | omega, by first | decide | omega⟩, hC hl (by first | decide | omega) (by first | decide | omega) (hR hk fun r hr => ?_)⟩
  have hrl := hr.len
  have last : ∀ r' : List Int, RowOk k r' → mExecs X (n + 1) [.app 4 (.tupE [(.var 6), (.var 7)])] [.val (.lst (ns.map D.int)), .val (.int k), .val (.int many), .val (.int kind), .mt (dB B), .val (.int j), .val (.int w), .val (.lst (r'.map D.int)), .unb] σ Q := by
    intro r' hr'
    rw [ms_cons]
    simp only [ev_nil, ev_cons, E.var, E.tupE, S.app, q_val, q_mt, g_z, g_s, List.set_cons_zero, List.set_cons_succ, List.length_cons, List.length_nil, Nat.zero_add, ms_nil]
    refine ⟨by simp [dB]; (first | with_reducible exact oo3 ‹_› | omega), by first | decide | omega, ?_⟩
    have e : dB B ++ [D.tup [.int w, .lst (r'.map D.int)]] = dB (B ++ [(w, r')]) := by simp [dB]
    rw [e]
    exact q w r' hw0 hw1 hr'
  rw [ms_cons]
  simp only [ev_nil, ev_cons, E.cst, E.var, E.bin, E.cmp, E.and_, E.call, E.bi, E.borrow, S.iff, q_val, c_gt, cond_bool, f_len, frzAll, at_b, g_z, g_s, List.set_cons_zero, List.set_cons_succ, List.length_map, decide_eq_true_eq, ms_nil, if_false, Bool.false_eq_true]
  refine hC hl (by first | decide | omega) (by first | decide | omega) ?_
  simp only [b_mod, c_eq, decide_eq_true_eq]
  refine ⟨by first | decide | omega, ?_⟩
  have hdl : (dB B).length = B.length := by simp [dB]
  split
  · refine ⟨by first | decide | with_reducible exact oo9 ‹_› ‹_› | omega, ?_⟩
    rw [hdl]
    split
    · rename_i hpos
      refine ⟨by first | decide | with_reducible exact ooc ‹_› ‹_› | omega, ?_⟩
      split
      · cases B with
        | nil => simp at hpos
        | cons b0 B =>
          have hr0 := hrow b0 (by simp)
          rw [ms_cons]
          simp only [E.cst, E.var, E.lst, E.idx, L.upto, L.comp, L.cat, L.borrow, It.seq, S.asgM, q_val, q_int, q_lst, q_one, frzAll, g_z, g_s, List.set_cons_zero, List.set_cons_succ, List.length_cons, List.length_nil, Nat.zero_add, List.length_map]
          have e0 : dB (b0 :: B) = .tup [.int b0.1, .lst (b0.2.map D.int)] :: dB B := by simp [dB]
          rw [e0]
          simp only [q_lst, i_0, t_1, List.length_map]
          have hr0l := hr0.len
          have hmix := mixed hr0 hr
          refine ⟨by first | decide | omega, by first | decide | with_reducible exact ooc ‹_› ‹_› | omega, by first | decide | with_reducible exact ooc ‹_› ‹_› | omega, ?_⟩
          refine comp_map (fun x => match x with | [.int c] => decide (¬ [c] = b0.2.take 1) | _ => false) (fun x => match x with | [d] => d | _ => .none) (fun x hx K hK => ?_) (fun x hx xx K hK => ?_) ?_
          · simp only [List.map_map, List.mem_map] at hx
            obtain ⟨c, hc, rfl⟩ := hx
            simp only [M.bal_p, Function.comp] at hK ⊢
            simp only [ev_nil, ev_cons, cd_some, E.cst, E.var, E.cmp, E.lst, E.idx, L.disp, L.upto, q_val, q_int, q_lst, i_0, t_1, setAll, g_z, g_s, List.set_cons_zero, List.set_cons_succ, List.length_cons, List.length_nil, Nat.zero_add, List.length_map]
            have e1 : List.take (Int.toNat 1) (b0.2.map D.int) = (b0.2.take 1).map D.int := by rw [← List.map_take]; rfl
            have e2 := eqv_ints [c] (b0.2.take 1)
            simp only [List.map_cons, List.map_nil] at e2
            rw [e1]
            simp only [c_nex, e2]
            refine ⟨by first | decide | omega, by first | decide | omega, by first | decide | with_reducible exact ooc ‹_› ‹_› | omega, ok_ints 7 [c], ok_ints 7 _, ?_⟩
            rw [← decide_not]
            exact hK
          · simp only [List.map_map, List.mem_map] at hx
            obtain ⟨c, hc, rfl⟩ := hx
            simp only [M.bal_e, Function.comp] at hK ⊢
            simp only [E.var, q_val, setAll, g_z, g_s, List.set_cons_zero, List.set_cons_succ]
            exact hK
          · have e : List.take (Int.toNat 1) (b0.2.map D.int) ++ List.map (fun x => match x with | [d] => d | _ => D.none) (List.filter (fun x => match x with | [.int c] => decide (¬ [c] = b0.2.take 1) | _ => false) ((r.map D.int).map fun d => [d])) =
                (b0.2.take 1 ++ r.filter fun c => decide (¬ [c] = b0.2.take 1)).map D.int := by
              rw [List.map_map, List.filter_map, List.map_map, List.map_append, List.map_take]
              rfl
            rw [e]
            refine ⟨?_, ?_, ?_⟩
            · have := hmix.len
              simp only [List.length_map]; (first | with_reducible exact ooc ‹_› ‹_› | omega)
            · simp only [List.all_map, List.all_eq_true]
              intro x _; rfl
            · rw [ms_cons]
              simp only [S.freeze, q_mt, g_z, g_s, List.set_cons_zero, List.set_cons_succ, ms_nil]
              rw [e0] at last
              exact last _ hmix
      · exact last r hr
    · exact last r hr
  · exact last r hr

theorem ballots_spec (hC : HasCell X) (hW : HasWeight X) (hR : HasRow X) {ns : List Int} {k : Nat} {Q : D → Sg → Prop} (hl : ns.length ≤ 63) (hk : k ≤ 100) (q : ∀ B, Bal k B → Q (.lst (dB B)) σ) :
    mExecs X (n + 1) M.ballots [.val (.lst (ns.map D.int)), .val (.int k), .unb, .unb, .unb, .unb, .unb, .unb, .unb] σ (fun fl xx σ' => (∀ b, σ b ≠ none → σ' b ≠ none) ∧ Q (flD fl) σ') := by
  have rest : ∀ many : Int, 0 ≤ many → many ≤ 40 → mExecs X (n + 1) (M.ballots.drop 2) [.val (.lst (ns.map D.int)), .val (.int k), .val (.int many), .unb, .unb, .unb, .unb, .unb, .unb] σ (fun fl xx σ' => (∀ b, σ b ≠ none → σ' b ≠ none) ∧ Q (flD fl) σ') := by
    intro many m0 m1
    simp only [M.ballots, List.drop_succ_cons, List.drop_zero]
    rw [ms_cons]
    simp only [ev_nil, ev_cons, E.cst, E.var, E.bin, E.call, S.asg, q_val, flD, g_z, List.set_cons_zero, List.set_cons_succ]
    refine hC hl (by first | decide | omega) (by first | decide | omega) ?_
    simp only [b_mod]
    have k0 := fmod_nn (a := cellV ns 2) (b := 4) (by first | decide | omega)
    have k1 := fmod_ltt (a := cellV ns 2) (b := 4) (by first | decide | omega)
    refine ⟨by first | decide | omega, ?_⟩
    rw [ms_cons]
    simp only [ev_nil, L.disp, S.asgM, List.set_cons_zero, List.set_cons_succ, List.length_nil]
    refine ⟨by first | decide | omega, ?_⟩
    rw [ms_cons]
    simp only [E.var, It.range, S.for_, q_val, q_int, g_z, g_s, List.length_cons, List.length_nil, Nat.zero_add, true_and]
    refine ⟨by first | decide | omega, by first | decide | omega, ?_⟩
    refine for_inv (fun j ρ σ' => σ' = σ ∧ ∃ (a5 a6 a7 : MV) (B : List (Int × List Int)), ρ = [.val (.lst (ns.map D.int)), .val (.int k), .val (.int many), .val (.int ((cellV ns 2).fmod 4)), .mt (dB B), a5, a6, a7, .unb] ∧ B.length = j ∧ (∀ b ∈ B, 1 ≤ b.1 ∧ b.1 ≤ 1000000000) ∧ ∀ b ∈ B, RowOk k b.2) ?_ ?_ ?_
    · exact ⟨rfl, .unb, .unb, .unb, [], rfl, rfl, by simp, by simp⟩
    · rintro j hj ρ σ' ⟨rfl, a5, a6, a7, B, rfl, hlen, hwt, hrow⟩
      simp only [List.length_map, List.length_range] at hj
      simp only [List.getElem_map, List.getElem_range, setAll, List.set_cons_zero, List.set_cons_succ]
      refine bal_turn hC hW hR hl hk (by first | decide | omega) k0 k1 (by first | decide | omega) hrow fun w r h0 h1 hr => ?_
      refine ⟨rfl, _, _, _, B ++ [(w, r)], rfl, by simp [hlen], fun b hb => ?_, fun b hb => ?_⟩
      · rcases List.mem_append.mp hb with hb | hb
        · exact hwt b hb
        · rw [List.mem_singleton.mp hb]; exact ⟨h0, h1⟩
      · rcases List.mem_append.mp hb with hb | hb
        · exact hrow b hb
        · rw [List.mem_singleton.mp hb]; exact hr
    · rintro ρ σ' ⟨rfl, a5, a6, a7, B, rfl, hlen, hwt, hrow⟩
      simp only [List.length_map, List.length_range] at hlen
      rw [ms_cons]
      simp only [S.freeze, q_mt, g_z, g_s, List.set_cons_zero, List.set_cons_succ]
      rw [ms_cons]
      simp only [E.var, S.ret, q_val, keepS, g_z, g_s, true_and, ms_nil]
      exact q B ⟨by first | decide | omega, hwt, hrow⟩
  simp only [M.ballots, List.drop_succ_cons, List.drop_zero] at rest
  simp only [M.ballots]
  rw [ms_cons]
  simp only [ev_nil, ev_cons, E.cst, E.var, E.bin, E.call, S.asg, q_val, flD, g_z, List.set_cons_zero, List.set_cons_succ]
  refine hC hl (by first | decide | omega) (by first | decide | omega) ?_
  simp only [b_mod]
  refine ⟨by first | decide | omega, ?_⟩
  rw [ms_cons]
  simp only [ev_nil, ev_cons, E.cst, E.var, E.bin, E.cmp, E.call, S.iff, q_val, cond_bool, g_z, ms_nil]
  refine hC hl (by first | decide | omega) (by first | decide | omega) ?_
  simp only [b_div, b_mod, c_eq, decide_eq_true_eq]
  refine ⟨by first | decide | omega, ⟨by first | decide | omega, by first | decide | omega⟩, by first | decide | omega, ?_⟩
  split
  · rw [ms_cons]
    simp only [ev_nil, ev_cons, E.cst, E.var, E.bin, E.call, S.asg, q_val, g_z, List.set_cons_zero, List.set_cons_succ, ms_nil]
    refine hC hl (by first | decide | omega) (by first | decide | omega) ?_
    simp only [b_div, b_mod]
    refine ⟨by first | decide | omega, ⟨by first | decide | omega, by first | decide | omega⟩, by first | decide | omega, ?_⟩
    exact rest _ (fmod_nn (by first | decide | omega)) (Int.le_of_lt_add_one (fmod_ltt (by first | decide | omega)))
  · exact rest _ (fmod_nn (by first | decide | omega)) (by have := fmod_ltt (a := cellV ns 1) (b := 9) (by first | decide | omega); omega)

theorem rows2 {B : List (Int × List Int)} {P : List (List D) → Prop} (h : P (B.map fun b => [.int b.1, .lst (b.2.map D.int)])) : seqT 2 (.lst (dB B)) P := by
  have e : dB B = (B.map fun b => [.int b.1, .lst (b.2.map D.int)]).map D.tup := by simp [dB, List.map_map, Function.comp]
  rw [e]
  refine ⟨by decide, _, rfl, ?_, h⟩
  intro r hr
  obtain ⟨b, _, rfl⟩ := List.mem_map.mp hr
  rfl

end
noncomputable def wsum (B : List (Int × List Int)) : Int := (B.map (·.1)).sum
noncomputable def quotaV (B : List (Int × List Int)) (s : Int) : Int := (wsum B).fdiv (s + 1) + 1

noncomputable def M.allw_e : E := (.idx (.var 1) (.cst (.int 0)))
noncomputable def M.allw : List S := [.ret (.bi .sum [(.lst (.comp M.allw_e [1] (.seq (.var 0)) none))])]
noncomputable def M.quota : List S := [.ret (.bin .add (.bin .fdiv (.call "all_weights" [(.var 0)]) (.bin .add (.var 1) (.cst (.int 1)))) (.cst (.int 1)))]

section
variable {X : Cx} {n : Nat} {σ : Sg}
theorem allw_spec {B : List (Int × List Int)} {Q : D → Sg → Prop} (hB : B.length ≤ 1000) (q : Q (.int (wsum B)) σ) :
    mExecs X n M.allw [.val (.lst (dB B)), .unb] σ (fun fl xx σ' => (∀ b, σ b ≠ none → σ' b ≠ none) ∧ Q (flD fl) σ') := by
  simp only [M.allw]
  rw [ms_cons]
  simp only [ev_nil, ev_cons, E.var, E.lst, E.bi, L.comp, It.seq, S.ret, q_val, q_one, flD, g_z, List.length_cons, List.length_nil, Nat.zero_add, List.length_map, ms_nil]
  have hdl : (dB B).length = B.length := by simp [dB]
  refine ⟨by first | decide | with_reducible exact oo9 ‹_› ‹_› | omega, ?_⟩
  refine comp_map (fun xx => true) (fun r => match r with | [.tup (d :: _)] => d | _ => .none) (fun r xx K h => h) (fun r hr xx K h => ?_) ?_
  · simp only [dB, List.map_map, List.mem_map] at hr
    obtain ⟨b, hb, rfl⟩ := hr
    simp only [M.allw_e, Function.comp] at h ⊢
    simp only [E.cst, E.var, E.idx, q_val, t_0, setAll, g_z, g_s, List.set_cons_zero, List.set_cons_succ]
    exact h
  · have e : List.map (fun r : List D => match r with | [.tup (d :: _)] => d | _ => D.none) (List.filter (fun xx => true) ((dB B).map fun d => [d])) = (B.map (·.1)).map D.int := by
      rw [filter_all]
      simp only [dB, List.map_map]
      rfl
    rw [e, f_sum]
    exact ⟨fun xx h => h, q⟩
noncomputable def HasAllw (X : Cx) : Prop := ∀ {n : Nat} {σ : Sg} {B : List (Int × List Int)} {Q : D → Sg → Prop}, B.length ≤ 1000 → Q (.int (wsum B)) σ → CallSem X (n + 1) "all_weights" [.lst (dB B)] σ Q
theorem quota_spec (hA : HasAllw X) {B : List (Int × List Int)} {s : Int} {Q : D → Sg → Prop} (hB : B.length ≤ 1000) (h0 : 0 ≤ s) (h1 : s ≤ 1000) (q : Q (.int (quotaV B s)) σ) :
    mExecs X (n + 1) M.quota [.val (.lst (dB B)), .val (.int s)] σ (fun fl xx σ' => (∀ b, σ b ≠ none → σ' b ≠ none) ∧ Q (flD fl) σ') := by
  simp only [M.quota]
  rw [ms_cons]
  simp only [ev_nil, ev_cons, E.cst, E.var, E.bin, E.call, S.ret, q_val, b_add, flD, g_z, g_s, ms_nil]
  refine hA hB ?_
  simp only [b_add, b_div, keepS, true_and]
  exact ⟨by first | decide | omega, ⟨by first | decide | omega, by first | decide | omega⟩, q⟩
noncomputable def HasCand (X : Cx) : Prop := ∀ {n : Nat} {σ : Sg} {ns : List Int} {Q : D → Sg → Prop}, ns.length ≤ 63 → (∀ k : Nat, 1 ≤ k → k ≤ 12 → Q (.int k) σ) → CallSem X (n + 1 + 1) "_law_candidates" [.lst (ns.map D.int)] σ Q
noncomputable def HasBal (X : Cx) : Prop := ∀ {n : Nat} {σ : Sg} {ns : List Int} {k : Nat} {Q : D → Sg → Prop}, ns.length ≤ 63 → k ≤ 100 → (∀ B, Bal k B → Q (.lst (dB B)) σ) → CallSem X (n + 1 + 1) "_law_ballots" [.lst (ns.map D.int), .int k] σ Q
noncomputable def HasQuota (X : Cx) : Prop := ∀ {n : Nat} {σ : Sg} {B : List (Int × List Int)} {s : Int} {Q : D → Sg → Prop}, B.length ≤ 1000 → 0 ≤ s → s ≤ 1000 → Q (.int (quotaV B s)) σ → CallSem X (n + 1 + 1) "quota" [.lst (dB B), .int s] σ Q
end
noncomputable def dO : Option Int → D
  | none => .none
  | some c => .int c
noncomputable def placeV (row st : List Int) : Option Int := row.find? fun c => decide (c ∈ st)

theorem find_at {p : Int → Bool} : ∀ {row : List Int} {j : Nat} (hj : j < row.length), (∀ x ∈ row.take j, p x = false) → p row[j] = true → row.find? p = some row[j]
  | a :: row, 0, _, _, h => by
    simp only [List.getElem_cons_zero] at h ⊢
    simp [List.find?, h]
  | a :: row, j + 1, hj, hx, h => by
    have ha : p a = false := hx a (by simp)
    have hj' : j < row.length := by simpa using hj
    simp only [List.getElem_cons_succ] at h ⊢
    simp only [List.find?_cons, ha]
    exact find_at hj' (fun x hx' => hx x (by simp [hx'])) h
theorem find_not {p : Int → Bool} {row : List Int} (h : ∀ x ∈ row, p x = false) : row.find? p = none := by
  rw [List.find?_eq_none]
  intro x hx
  simp [h x hx]
theorem placeV_in {row st : List Int} {c : Int} (h : placeV row st = some c) : c ∈ row ∧ c ∈ st := by
  have h1 := List.mem_of_find?_eq_some h
  have h2 := List.find?_some h
  exact ⟨h1, by simpa using h2⟩

noncomputable def M.place_b : List S := [.iff (.cmp .in_ (.var 2) (.var 1)) [.ret (.var 2)] []]
noncomputable def M.place : List S := [.for_ [2] (.seq (.var 0)) M.place_b, .ret (.cst .none)]
noncomputable def M.held_b : List S := [.iff (.cmp .isn (.var 4) (.cst .none)) [.setI 3 (.var 4) (.borrow [3] (.bin .add (.idx (.var 3) (.var 4)) (.var 5)))] []]
noncomputable def M.held : List S := [.asgM 3 (.rep (.cst (.int 0)) (.var 0)), .for_ [4, 5] (.zip (.var 1) (.var 2)) M.held_b, .freeze 3, .ret (.var 3)]

noncomputable def heldT (acc : List Int) (p : Option Int × Int) : List Int := match p.1 with
  | none => acc
  | some c => acc.set c.toNat (acc.getD c.toNat 0 + p.2)
noncomputable def heldL (k : Nat) (pl : List (Option Int × Int)) : List Int := pl.foldl heldT (List.replicate k 0)
theorem heldT_len (acc : List Int) (p : Option Int × Int) : (heldT acc p).length = acc.length := by
  unfold heldT
  split <;> simp
theorem heldL_len (k : Nat) (pl : List (Option Int × Int)) : (heldL k pl).length = k := by
  unfold heldL
  have : ∀ (pl : List (Option Int × Int)) (acc : List Int), (pl.foldl heldT acc).length = acc.length := by
    intro pl
    induction pl with
    | nil => intro acc; rfl
    | cons p pl ih => intro acc; rw [List.foldl_cons, ih, heldT_len]
  rw [this]; simp
theorem heldL_take {k : Nat} {pl : List (Option Int × Int)} {j : Nat} (hj : j < pl.length) : heldL k (pl.take (j + 1)) = heldT (heldL k (pl.take j)) pl[j] := by
  unfold heldL
  rw [← List.take_append_getElem hj, List.foldl_append]
  rfl
theorem set_ints (l : List Int) (i : Nat) (v : Int) : (l.map D.int).set i (.int v) = (l.set i v).map D.int := by rw [List.map_set]

section
variable {X : Cx} {n : Nat} {σ : Sg}
theorem held_spec {k : Nat} {ps : List (Option Int)} {ls : List Int} {Q : D → Sg → Prop} (hk : k ≤ 1000) (hin : ∀ p ∈ ps, ∀ c, p = some c → 0 ≤ c ∧ c < (k : Int)) (q : Q (.lst ((heldL k (ps.zip ls)).map D.int)) σ) :
    mExecs X n M.held [.val (.int k), .val (.lst (ps.map dO)), .val (.lst (ls.map D.int)), .unb, .unb, .unb] σ (fun fl xx σ' => (∀ b, σ b ≠ none → σ' b ≠ none) ∧ Q (flD fl) σ') := by
  simp only [M.held]
  rw [ms_cons]
  simp only [E.cst, E.var, L.rep, S.asgM, q_val, q_int, flD, g_z, List.set_cons_zero, List.set_cons_succ]
  refine ⟨by first | decide | with_reducible exact oo1 _ | omega, by first | decide | with_reducible exact oo8 ‹_› | omega, ?_⟩
  have e0 : List.replicate (k : Int).toNat (D.int 0) = (heldL k []).map D.int := by simp [heldL]
  rw [e0]
  rw [ms_cons]
  simp only [E.var, It.zip, S.for_, q_val, q_lst, g_z, g_s, List.length_cons, List.length_nil, Nat.zero_add, true_and]
  have e1 : (List.map (fun p => [p.1, p.2]) ((ps.map dO).zip (ls.map D.int))) = (ps.zip ls).map fun p => [dO p.1, .int p.2] := by
    rw [List.zip_map, List.map_map]; rfl
  rw [e1]
  refine for_inv (fun j ρ σ' => σ' = σ ∧ ∃ (a b : MV), ρ = [.val (.int k), .val (.lst (ps.map dO)), .val (.lst (ls.map D.int)), .mt ((heldL k ((ps.zip ls).take j)).map D.int), a, b]) ?_ ?_ ?_
  · exact ⟨rfl, .unb, .unb, rfl⟩
  · rintro j hj ρ σ' ⟨rfl, a, b, rfl⟩
    simp only [List.length_map] at hj
    simp only [List.getElem_map, M.held_b]
    rw [heldL_take hj]
    have hlen := heldL_len k ((ps.zip ls).take j)
    generalize heldL k ((ps.zip ls).take j) = acc at hlen
    have hmem := (List.of_mem_zip (show ((ps.zip ls)[j].1, (ps.zip ls)[j].2) ∈ ps.zip ls from List.getElem_mem hj)).1
    generalize (ps.zip ls)[j] = p at hmem
    obtain ⟨p, w⟩ := p
    rw [ms_cons]
    simp only [E.cst, E.var, E.cmp, S.iff, q_val, c_isn, cond_bool, setAll, g_z, g_s, List.set_cons_zero, List.set_cons_succ, true_and, Bool.not_eq_true', ms_nil]
    cases p with
    | none =>
      simp only [dO, D.isNone]
      exact ⟨_, _, rfl⟩
    | some c =>
      have hc := hin _ hmem c rfl
      simp only [dO, D.isNone]
      rw [if_pos trivial]
      rw [ms_cons]
      simp only [E.var, E.bin, E.idx, E.borrow, S.setI, q_val, q_mt, q_int, b_add, i_ints, frzAll, at_i, g_z, g_s, List.set_cons_zero, List.set_cons_succ, List.length_map, true_and, ms_nil]
      refine ⟨by first | decide | with_reducible exact oo9 ‹_› ‹_› | omega, ⟨hc.1, by first | decide | with_reducible exact oos ‹_› ‹_› | omega, by first | decide | omega, hc.1, by first | decide | omega, ?_⟩⟩
      rw [set_ints]
      exact ⟨_, _, rfl⟩
  · rintro ρ σ' ⟨rfl, a, b, rfl⟩
    rw [List.length_map, List.take_length]
    rw [ms_cons]
    simp only [S.freeze, q_mt, g_z, g_s, List.set_cons_zero, List.set_cons_succ]
    rw [ms_cons]
    simp only [E.var, S.ret, q_val, keepS, g_z, g_s, true_and, ms_nil]
    exact q
noncomputable def HasHeld (X : Cx) : Prop := ∀ {n : Nat} {σ : Sg} {k : Nat} {ps : List (Option Int)} {ls : List Int} {Q : D → Sg → Prop}, k ≤ 1000 → (∀ p ∈ ps, ∀ c, p = some c → 0 ≤ c ∧ c < (k : Int)) → Q (.lst ((heldL k (ps.zip ls)).map D.int)) σ →
  CallSem X (n + 1) "held" [.int k, .lst (ps.map dO), .lst (ls.map D.int)] σ Q
end
section
open PySem.W
noncomputable def Sg.put (σ : Sg) (a : Addr) (t : TObj) : Sg := fun b => if b = a then some t else σ b
theorem Sg.put_self (σ : Sg) (a : Addr) (t : TObj) : Sg.put σ a t a = some t := by simp [Sg.put]
theorem Sg.put_ne {σ : Sg} {a b : Addr} {t : TObj} (h : b ≠ a) : Sg.put σ a t b = σ b := by simp [Sg.put, h]

section
variable {g : Heap} {s s' : Shared} {Φ Φ' : Fz} {σ σ' : Sg}
theorem Step.track (ok : Ok g σ Φ s.heap) (x : Step g s s' Φ Φ' σ σ') {a : Addr} {t : TObj} (hn : s.heap.get? a = none) (hf : Φ' a = none) (hr : TRel Φ' s'.heap a t) : Step g s s' Φ Φ' σ (σ'.put a t) :=
  ⟨x.same, x.keep, x.mono, ⟨fun b o e => by
      have hb : b ≠ a := fun q => by have := (ok.base b o e).1; rw [q, hn] at this; cases this
      rw [Sg.put_ne hb]; exact x.ok.base b o e, fun b o e => by
      have hb : b ≠ a := fun q => by rw [q, hf] at e; cases e
      rw [Sg.put_ne hb]; exact x.ok.frz b o e, fun b u e => by
      by_cases hb : b = a
      · subst hb; rw [Sg.put_self] at e; cases e; exact hr
      · rw [Sg.put_ne hb] at e; exact x.ok.trk b u e⟩, fun b hb => by
      by_cases q : b = a
      · subst q; exact .inr hn
      · rw [Sg.put_ne q] at hb; exact x.newS b hb, x.newF, x.live⟩
theorem Step.put1 (ok : Ok g σ Φ s.heap) {a : Addr} {t t' : TObj} {h' : Heap} {tk : Nat} (ha : σ a = some t) (hs : Heap.SameBut a s.heap h') (hr : TRel Φ h' a t') : Step g s { s with heap := h', toks := tk } Φ Φ σ (σ.put a t') :=
  have ne : ∀ b, σ b = none → b ≠ a := fun b hb q => by rw [q, ha] at hb; cases hb
  ⟨⟨h', tk, rfl⟩, fun b o e hb => (hs.2 b (ne b hb)).trans e, Fz.le.refl _, ⟨fun b o e => by
      have h := ok.base b o e
      rw [Sg.put_ne (ne b h.2)]; exact ⟨(hs.2 b (ne b h.2)).trans h.1, h.2⟩, fun b o e => by
      have h := ok.frz b o e
      rw [Sg.put_ne (ne b h.2)]; exact ⟨(hs.2 b (ne b h.2)).trans h.1, h.2⟩, fun b u e => by
      by_cases hb : b = a
      · subst hb; rw [Sg.put_self] at e; cases e; exact hr
      · rw [Sg.put_ne hb] at e; exact (ok.trk b u e).mono (Fz.le.refl _) fun o x => (hs.2 b hb).trans x⟩, fun b hb => by
      by_cases q : b = a
      · subst q; exact .inl (by rw [ha]; simp)
      · rw [Sg.put_ne q] at hb; exact .inl hb, fun xx h => .inl h, fun b hb => by
      by_cases q : b = a
      · subst q; obtain ⟨o, ho⟩ := hr.isSome; rw [ho] at hb; cases hb
      · rw [← hs.2 b q]; exact hb⟩
end
theorem look_ns {h : Heap} {a : Addr} {m : Str → Option Value} (hn : h.Ns1 a m) : ∃ o, h.get? a = some o ∧ ∀ x, lookIn x o = some (m x) := by
  obtain ⟨o, es, ep, ho, hd, hk, _, hm⟩ := hn
  refine ⟨o, ho, fun x => ?_⟩
  have hx := hm x
  unfold lookIn
  rw [hd]
  dsimp only
  unfold nsFind findBy at hx
  rw [← Array.find?_toList] at hx
  cases e : es.toList.find? (·.key.isStr x) with
  | some en => rw [e] at hx; simp only [Option.map_some] at hx; rw [← hx]
  | none =>
    rw [e] at hx
    simp only [Option.map_none] at hx
    rw [← hx]
    have : (es.toList.any (·.refKey)) = false := by
      rw [List.any_eq_false]
      intro en he
      obtain ⟨n, t, h⟩ := hk en (by simpa using he)
      simp [DictEntry.refKey, h]
    simp [this]

theorem Rd.handed {Φ : Fz} {v : Value} {d : D} (r : Rd Φ v d) : handedIn v = true := by cases r <;> rfl

noncomputable def attrChk (K : Frag) (C : Addr) (name : Str) : Bool := findIn K (.ref C) "__getattribute__" == some (some (.builtin "object.__getattribute__")) && findIn K (.ref C) name == some none && (clsIn K C).any (·.hasDict) &&
  findIn K (.ref C) "__setattr__" == some (some (.builtin "object.__setattr__")) && plainOver K C
noncomputable def AttrOk (X : Cx) (C : Addr) (name : Str) : Prop := ∃ K : Frag, K.In X.g ∧ attrChk K C name = true
noncomputable def methChk (K : Frag) (C : Addr) (name : Str) (f : Addr) : Bool := findIn K (.ref C) "__getattribute__" == some (some (.builtin "object.__getattribute__")) && findIn K (.ref C) "__getattr__" == some none &&
  findIn K (.ref C) name == some (some (.ref f)) && typeIn K (.ref f) == some (.type "function") && keepIn K (.ref f)
noncomputable def MethAt (X : Cx) (C : Addr) (name : Str) (f : Addr) : Prop := ∃ K : Frag, K.In X.g ∧ methChk K C name f = true
noncomputable def mkChk (K : Frag) (C : Addr) (f : Addr) : Bool := makesIn K C && findIn K (.ref C) "__init__" == some (some (.ref f)) && typeIn K (.ref f) == some (.type "function") && keepIn K (.ref C)
noncomputable def MakeAt (X : Cx) (C : Addr) (f : Addr) : Prop := ∃ K : Frag, K.In X.g ∧ mkChk K C f = true

noncomputable def E.attr (e : E) (name : Str) : E := fun X n ρ σ Q => e X n ρ σ fun x σ => ∃ a C dx fs d, x = .ref a ∧ σ a = some (.inst C dx) ∧ σ dx = some (.ns fs) ∧ AttrOk X C name ∧ fs.lookup name = some d ∧ Q d σ
noncomputable def E.meth (e : E) (name : Str) : E := fun X n ρ σ Q => e X n ρ σ fun x σ => ∃ a C dx fs f, x = .ref a ∧ σ a = some (.inst C dx) ∧ σ dx = some (.ns fs) ∧ fs.lookup name = none ∧ MethAt X C name f ∧ CallA X n (.ref f) [.ref a] σ Q
noncomputable def E.make (cn : Str) (args : List E) : E := fun X n ρ σ Q => ∃ C f k, X.mg cn = some (.ref C) ∧ MakeAt X C f ∧ n = k + 1 ∧ mEvals X n args ρ σ fun ds σ =>
  ∀ a dx, a ≠ dx → σ a = none → σ dx = none → CallA X k (.ref f) (.ref a :: ds) ((σ.put dx (.ns [])).put a (.inst C dx)) fun d σ' => d = .none ∧ Q (.ref a) σ'
noncomputable def E.track (l : L) : E := fun X n ρ σ Q => l X n ρ σ fun ds σ => ∀ a, σ a = none → Q (.ref a) (σ.put a (.list ds))
noncomputable def E.last (e : E) : E := fun X n ρ σ Q => e X n ρ σ fun x σ => ∃ a ds d, x = .ref a ∧ σ a = some (.list ds) ∧ ds.length ≤ 2 ^ 20 ∧ ds.getLast? = some d ∧ Q d σ
noncomputable def E.appT (o e : E) : E := fun X n ρ σ Q => o X n ρ σ fun x σ => ∃ a ds₀, x = .ref a ∧ σ a = some (.list ds₀) ∧ e X n ρ σ fun d σ => ∃ ds, σ a = some (.list ds) ∧ ds.length < 2 ^ 20 ∧ Q .none (σ.put a (.list (ds ++ [d])))
noncomputable def E.glob (x : Str) : E := fun X xx xx σ Q => ∃ i t, X.mg x = some (.int i t) ∧ Q (.int i) σ
noncomputable def S.setA (o : E) (name : Str) (e : E) : S := fun X n ρ σ Q => e X n ρ σ fun d σ => o X n ρ σ fun x σ => ∃ a C dx fs, x = .ref a ∧ σ a = some (.inst C dx) ∧ σ dx = some (.ns fs) ∧ fs.length ≤ 100 ∧ AttrOk X C name ∧ fs.lookup name = none ∧ Q .next ρ (σ.put dx (.ns (fs ++ [(name, d)])))
noncomputable def S.dead : S := fun xx xx xx xx xx => False

section
variable {X : Cx} {n : Nat} {sc : Scope} {names : List Str}

theorem OvR.some' {Φ : Fz} {v : Option Value} {d : D} (h : OvR Φ v (some d)) : ∃ u, v = some u ∧ Rd Φ u d := by
  cases h with | so r => exact ⟨_, rfl, r⟩
theorem OvR.none' {Φ : Fz} {v : Option Value} (h : OvR Φ v none) : v = none := by
  cases h; rfl

theorem inst_at {h : Heap} {a C dx : Addr} {o : Obj} (h1 : h.get? a = some { cls := .ref C, dict := some dx, data := .plain }) (h2 : h.get? dx = some o) : InstAt h a (instObj C dx) C (some o) := ⟨h1, rfl, rfl, h2⟩

theorem SE_attr {x name : Str} {p pos : Pos} {e : E} (hx : SE X n sc names (.Name x p) e) : SE X n sc names (.Attribute (.Name x p) name pos) (.attr e name) := by
  intro env A s Φ ρ σ Q he eo hroom ok F h
  refine Attribute_Name_ (wpAny_mono (hx env A s Φ ρ σ _ he eo hroom ok F h) ?_ fun xx xx h => h.elim)
  rintro v s₁ ⟨_, σ₁, Φ₁, st, r, a, C, dx, fs, d, rfl, ha, hd, ⟨K, hK, hc⟩, hl, q⟩
  cases r
  have t1 : s₁.heap.get? a = _ := st.ok.trk a _ ha
  obtain ⟨m, hn, hm⟩ := st.ok.trk dx _ hd
  obtain ⟨o, ho, hlk⟩ := look_ns hn
  have hv := hm name
  rw [hl] at hv
  obtain ⟨v, hv, rv⟩ := hv.some'
  have X1 : K.In s₁.heap := hK.keeps fun b o e => (st.ok.base b o e).1
  simp only [attrChk, Bool.and_eq_true, beq_iff_eq] at hc
  obtain ⟨⟨⟨⟨h1, h2⟩, h3⟩, _⟩, _⟩ := hc
  obtain ⟨cd, hcd, hdi⟩ := any_some h3
  refine get_value X1 (inst_at t1 ho) h1 ?_ rv.handed ⟨d, σ₁, Φ₁, st.trans (Step.tok st.ok _), rv, q⟩
  unfold findObj
  rw [hcd, h2]
  simp only [Option.bind_some]
  unfold W.ownOf
  rw [hdi, if_pos rfl]
  simp only [hlk, hv, Option.bind_some]

theorem SE_meth {x name : Str} {p apos pos : Pos} {e : E} (hx : SE X n sc names (.Name x p) e) (hl : (apos.endLine == pos.line) = true) : SE X n sc names (.Call (.Attribute (.Name x p) name apos) [] [] pos) (.meth e name) := by
  intro env A s Φ ρ σ Q he eo hroom ok F h
  refine MethodCall_ (wpAny_mono (hx env A s Φ ρ σ _ he eo hroom ok F h) ?_ fun xx xx h => h.elim) (meth_eq hl rfl (by simp))
  rintro v s₁ ⟨_, σ₁, Φ₁, st, r, a, C, dx, fs, f, rfl, ha, hd, hno, ⟨K, hK, hc⟩, q⟩
  cases r
  have t1 : s₁.heap.get? a = _ := st.ok.trk a _ ha
  obtain ⟨m, hn, hm⟩ := st.ok.trk dx _ hd
  obtain ⟨o, ho, hlk⟩ := look_ns hn
  have hv := hm name
  rw [hno] at hv
  have hv := hv.none'
  have X1 : K.In s₁.heap := hK.keeps fun b o e => (st.ok.base b o e).1
  simp only [methChk, Bool.and_eq_true, beq_iff_eq] at hc
  obtain ⟨⟨⟨⟨h1, h2⟩, h3⟩, h4⟩, h5⟩ := hc
  refine method_fn X1 (inst_at t1 ho) h1 h2 h3 h4 (by simp [shadowIn, hlk, hv]) ?_
  refine callWith_K0 X1 h5 ?_
  refine wpAny_mono (q.wp hroom st.ok (.one (.ref a))) ?_ fun xx xx h => h.elim
  rintro v₂ s₂ ⟨d, σ₂, Φ₂, st₂, r₂, q₂⟩
  exact ⟨d, σ₂, Φ₂, st.trans st₂, r₂, q₂⟩

theorem Room.under {k : Nat} {A : Around} (h : Room (k + 1) A) {c : Code} (h1 : c.weight ≤ 1) (h2 : c.cUnits ≤ 8) : Room k (A.under c) := by
  obtain ⟨a, b, d⟩ := h
  refine ⟨a, ?_, ?_⟩
  · show A.depth + c.weight + k < recursionLimit; omega
  · show A.units + c.cUnits + 8 * k + 200 < cLine; omega

theorem SE_make {cn : Str} {x : Expr} {xs : List Expr} {es : List E} {p pos : Pos} (G : Gnd X) (hx : SEs X n sc names (x :: xs) es) (hk : sc.names.lookup cn = some .globalImplicit) (hs : (x :: xs).all notStar = true)
    (hd : (cn == ("__debug__" : Str)) = false) : SE X n sc names (.Call (.Name cn p) (x :: xs) [] pos) (.make cn es) := by
  intro env A s Φ ρ σ Q he eo hroom ok F h
  obtain ⟨C, f, k, hmg, ⟨K, hK, hc⟩, rfl, h⟩ := h
  have hkf : env.kindOf cn = some .globalImplicit := by rw [Env.kindOf_sc he]; exact hk
  simp only [List.all_cons, Bool.and_eq_true] at hs
  simp only [mkChk, Bool.and_eq_true, beq_iff_eq] at hc
  obtain ⟨⟨⟨h1, h2⟩, h3⟩, h4⟩ := hc
  refine Call_Name rfl (name_fn G ok eo hkf hmg hd ?_)
  refine callWith_K (hK.keeps fun b o e => (ok.base b o e).1) h4 (wpAny_mono (hx env A s Φ ρ σ _ pos he eo hroom ok F h) ?_ fun xx xx h => h.elim) (starEach_cons hs.1) (plain_star xs hs.2)
  rintro vs s₁ ⟨ds, σ₁, Φ₁, st, r, q⟩
  have X1 : K.In s₁.heap := hK.keeps fun b o e => (st.ok.base b o e).1
  refine ⟨X1, ?_⟩
  refine wpAny_call ?_
  obtain ⟨hh, g, dr, t, os⟩ := s₁
  refine make_core (makes_of X1 h1) (looks_findIn X1 h2) (fun self => bind_fn X1 self h3) (.inl rfl) ?_
  have n0 : hh.get? hh.objs.size = none := size_none hh
  have n1 : hh.get? (hh.objs.size + 1) = none := none_of_ge (Nat.le_succ _)
  have s0 := st.ok.freshS n0
  have s1 := st.ok.freshS n1
  have f0 := st.ok.freshF n0
  have f1 := st.ok.freshF n1
  have e1 : ((hh.push emptyDict).push (instObj C hh.objs.size)).get? hh.objs.size = some emptyDict := Heap.get?_push_of_some _ (Heap.get?_push_size _ rfl)
  have e2 : ((hh.push emptyDict).push (instObj C hh.objs.size)).get? (hh.objs.size + 1) = some (instObj C hh.objs.size) := by
    have := Heap.get?_push_size (hh.push emptyDict) (o := instObj C hh.objs.size) rfl
    rwa [Heap.size_push] at this
  have nsE : ((hh.push emptyDict).push (instObj C hh.objs.size)).Ns1 hh.objs.size fun xx => none := Heap.Ns1.of_empty ⟨emptyDict, #[], 0, e1, rfl, fun xx he => by simp at he, fun xx => rfl⟩
  have k1 : Step X.g ⟨hh, g, dr, t, os⟩ ⟨(hh.push emptyDict).push (instObj C hh.objs.size), g, dr, t, os⟩ Φ₁ Φ₁ σ₁ σ₁ := Step.keeps (tk := t) st.ok fun b o e => Heap.get?_push_of_some _ (Heap.get?_push_of_some _ e)
  have k2 := (k1.track st.ok (t := .ns []) n0 f0 ⟨_, nsE, fun xx => .no⟩).track st.ok (t := .inst C hh.objs.size) n1 f1 e2
  have z := q (hh.objs.size + 1) hh.objs.size (Nat.succ_ne_self _) s1 s0 _ _ Φ₁ (.ref (hh.objs.size + 1) :: vs) (hroom.under (c := .builtin "type.__call__" ⟨.ref C :: vs, []⟩) (Nat.le_of_ble_eq_true rfl) (Nat.le_of_ble_eq_true rfl)) k2.ok (.cons (.ref _) r)
  refine codeAny_mono z fun r s' hr => ?_
  cases r with
  | error e => exact hr
  | ok f =>
    cases f with
    | ret v =>
      obtain ⟨d, σ₂, Φ₂, st₂, rd, rfl, q₂⟩ := hr
      cases rd
      exact ⟨rfl, _, σ₂, Φ₂, st.trans (k2.trans st₂), .ref _, q₂⟩
    | _ => exact hr

theorem SE_track {x : Expr} {l : L} (hx : SL X n sc names x l) : SE X n sc names x (.track l) := by
  intro env A s Φ ρ σ Q he eo hroom ok F h
  refine wpAny_mono (hx env A s Φ ρ σ _ he eo hroom ok F h) ?_ fun xx xx h => h.elim
  rintro v s₁ ⟨a, vs, ds, σ₁, Φ₁, rfl, st, hn, hpl, h1, h2, r, q⟩
  exact ⟨_, _, Φ₁, st.track ok (t := .list ds) hn h2 ⟨vs, hpl, r⟩, .ref a, q a h1⟩

theorem SE_glob {x : Str} {p : Pos} (G : Gnd X) (hk : sc.names.lookup x = some .globalImplicit) (hd : (x == ("__debug__" : Str)) = false) : SE X n sc names (.Name x p) (.glob x) := by
  intro env A s Φ ρ σ Q he eo hroom ok F h
  obtain ⟨i, t, hm, q⟩ := h
  exact name_fn G ok eo (by rw [Env.kindOf_sc he]; exact hk) hm hd ⟨_, σ, Φ, Step.refl ok, .int i t, q⟩

theorem SE_last {x : Expr} {e : E} {k : Nat} {p p' pos : Pos} (hx : SE X n sc names x e) : SE X n sc names (.Subscript x (.UnaryOp .USub (.Constant (.int 1) k p) p') pos) (.last e) := by
  intro env A s Φ ρ σ Q he eo hroom ok F h
  refine Subscript_ (wpAny_mono (hx env A s Φ ρ σ _ he eo hroom ok F h) ?_ fun xx xx h => h.elim)
  rintro v s₁ ⟨_, σ₁, Φ₁, st, r, a, ds, d, rfl, ha, hlen, hl, q⟩
  cases r
  have q1 : (E.neg (.cst (.int 1))) X n ρ σ₁ fun x σ => x = .int (-1) ∧ σ = σ₁ := ⟨rfl, rfl⟩
  refine wpAny_mono (SE_neg SE_int env A s₁ Φ₁ ρ σ₁ _ he eo hroom st.ok (F.step st) q1) ?_ fun xx xx h => h.elim
  rintro w s₂ ⟨_, σ₂, Φ₂, st₂, r₂, rfl, rfl⟩
  cases r₂ with
  | int _ t =>
    obtain ⟨vs, ⟨k, hpl⟩, ra⟩ := st₂.ok.trk a _ ha
    have hlv := ra.length
    simp only [Array.length_toList] at hlv
    have hne : ds ≠ [] := fun e => by rw [e] at hl; cases hl
    have hpos : 0 < ds.length := List.length_pos_iff.mpr hne
    rw [List.getLast?_eq_getElem?] at hl
    obtain ⟨v, hv, rv⟩ := ra.get hl
    have hL : s₂.heap.IsList a vs := ⟨_, hpl, rfl, _, rfl⟩
    refine tail_any hL.typeIs slot_list_getitem.lookup (wpAny_getItem_list_neg (x := v) hL (by decide) (by omega) (by decide) ?_ ⟨_, σ₂, Φ₂, st.trans st₂, rv, q⟩) (subscripted_eq rfl)
    have e : ((-1 : Int) + vs.size).toNat = ds.length - 1 := by omega
    rw [e]
    simpa using hv

noncomputable def MethEq (r : Expr) (name : Str) (args : List Expr) (apos pos : Pos) : Prop := ∀ env, ∃ pl, eval (.Call (.Attribute r name apos) args [] pos) env = (do
      let ov ← eval r env
      standAt apos.atName
      let (f, first) ← holding [ov] (getMethod ov name pl)
      callWith pos f first (backTo pos (starEach args env)) [])
theorem meth_form {env : Env} {pos : Pos} {args : List Expr} (hs : args.all notStar = true) (hn : decide (args.length < 30) = true) : methodCallForm (args.length + 0) (backTo pos (starEach args env)) (backToKw pos (keywordEach [] env)) = true := by
  have h1 : (backTo pos (starEach args env)).all (!·.1) = true := by
    have := plain_star (pos := pos) (env := env) args hs
    rw [List.any_eq_false] at this
    rw [List.all_eq_true]
    intro q hq
    have := this q hq
    simpa using this
  unfold methodCallForm
  rw [h1]
  simp [backToKw, keywordEach]
  have := of_decide_eq_true hn
  first | with_reducible assumption | omega
theorem methA {b : Expr} {nm : Str} {ap apos pos : Pos} {name : Str} {args : List Expr} (hl : (apos.endLine == pos.line) = true) (hs : args.all notStar = true) (hn : decide (args.length < 30) = true) : MethEq (.Attribute b nm ap) name args apos pos := by
  intro env
  refine ⟨do return (← importBound (.Attribute b nm ap) env).getD true, ?_⟩
  have h2 := meth_form (pos := pos) (env := env) hs hn
  show (do
    let ov ← eval (.Attribute b nm ap) env
    standAt apos.atName
    methodCall (.Attribute b nm ap) name apos pos env ov (args.length + 0) (backTo pos (starEach args env)) (backToKw pos (keywordEach [] env))) = _
  unfold methodCall
  simp only [h2, calleeOf, methodCallPos, hl, if_true, Bool.not_true, Bool.false_or, pure_bind]
  rfl
set_option tactic.hygienic true in
theorem SE_appT {b : Expr} {v : Expr} {o e : E} {apos pos : Pos} (ho : SE X n sc names b o) (hv : SE X n sc names v e) (hs : notStar v = true) (hm : MethEq b "append" [v] apos pos) :
    SE X n sc names (.Call (.Attribute b "append" apos) [v] [] pos) (.appT o e) := by
  intro env A s Φ ρ σ Q he eo hroom ok F h
  obtain ⟨pl, heq⟩ := hm env
  refine MethodCall_ (wpAny_mono (ho env A s Φ ρ σ _ he eo hroom ok F h) ?_ fun xx xx h => h.elim) heq
  rintro w s₁ ⟨_, σ₁, Φ₁, st, r, a, ds₀, rfl, ha, q⟩
  cases r
  obtain ⟨vs, ⟨k, hpl⟩, ra⟩ := st.ok.trk a _ ha
  refine Calls.getMethod_list_append hpl rfl rfl ?_
  refine callWith_method1 ?_ (starEach_cons hs) rfl
  have h1 : mEvals X n [e] ρ σ₁ (fun ds' σ => ∃ d, ds' = [d] ∧ ∃ ds, σ a = some (.list ds) ∧ ds.length < 2 ^ 20 ∧ Q .none (σ.put a (.list (ds ++ [d])))) := by
    simp only [mEvals, List.cons.injEq, and_true, exists_eq_left']; exact q
  refine wpAny_mono (SEs_cons hv SEs_nil hs env A s₁ Φ₁ ρ σ₁ _ pos he eo hroom st.ok (F.step st) h1) ?_ fun xx xx h => h.elim
  rintro ws s₂ ⟨_, σ₂, Φ₂, st₂, r, d, rfl, ds, ha₂, hlen, q⟩
  cases r with
  | cons r1 r2 =>
    cases r2
    rename_i y
    obtain ⟨vs, hpl, ra⟩ := st₂.ok.trk a _ ha₂
    refine wpAny_list_append_plain hpl (fun h' hl' hs' => ?_) (by have := ra.length; simp only [Array.length_toList] at this; unfold sizeLine; omega)
    have rr : RdAll Φ₂ (vs.push y).toList (ds ++ [d]) := by simpa using ra.append (.one r1)
    have st₃ := Step.put1 (tk := s₂.toks) (t' := .list (ds ++ [d])) st₂.ok ha₂ hs' ⟨_, hl', rr⟩
    exact ⟨_, _, Φ₂, (st.trans st₂).trans st₃, .none, q⟩

theorem SS_dead {st : Stmt} : SS X n sc names st .dead := fun xx xx xx xx xx xx xx xx xx xx xx xx xx h => h.elim

theorem SS_setA {x name : Str} {v : Expr} {o e : E} {p apos pos : Pos} (ho : SE X n sc names (.Name x p) o) (hv : SE X n sc names v e) (hc : ∀ env, swapsWith v (some (.Attribute (.Name x p) name apos)) pos.line env = pure false) : SS X n sc names (.Assign [.Attribute (.Name x p) name apos] v pos) (.setA o name e) := by
  intro env A s B Φ₀ ρ σ Φ Q he eo hr I h
  refine plainObj_wpAny_Assign_Attribute (wpAny_mono (hv env A s Φ ρ σ _ he eo hr I.ok I.frame h) ?_ fun xx xx h => h.elim) (hc env)
  rintro v s₁ ⟨d, σ₁, Φ₁, st, r, q⟩
  refine wpAny_mono (ho env A s₁ Φ₁ ρ σ₁ _ he eo hr st.ok (I.step st).frame q) ?_ fun xx xx h => h.elim
  rintro w s₂ ⟨_, σ₂, Φ₂, st₂, r₂, a, C, dx, fs, rfl, ha, hd, hlen, ⟨K, hK, hc⟩, hno, q⟩
  cases r₂
  have t1 : s₂.heap.get? a = _ := st₂.ok.trk a _ ha
  obtain ⟨m, hn, hm⟩ := st₂.ok.trk dx _ hd
  obtain ⟨o, hdo, hlk⟩ := look_ns hn
  have X1 : K.In s₂.heap := hK.keeps fun b o e => (st₂.ok.base b o e).1
  simp only [attrChk, Bool.and_eq_true, beq_iff_eq] at hc
  obtain ⟨⟨⟨⟨h1, h2⟩, h3⟩, h4⟩, h5⟩ := hc
  obtain ⟨cd, hcd, hdi⟩ := any_some h3
  refine set_plain X1 (inst_at t1 hdo) h4 ?_
  refine osa_open (s := { s₂ with toks := s₂.toks + 1 }) X1 (inst_at t1 hdo) h5 (r := none) (by simp [takerIn, h2]) fun b => ?_
  refine wpAny_bind (wpAny_pure (wpAny_bind (wpAny_bind (wpAny_loadPart t1 (wpAny_bind (looks_clsIn X1 hcd _ _ _ _ (fun xx xx e => e) ?_))))))
  rw [hdi]
  refine wpAny_pure (a := some dx) ?_
  show wpAny _ _ (Builtin.ObjectAttr.storeInDict dx (.str name s₂.toks) name v) _ _ _
  unfold Builtin.ObjectAttr.storeInDict Builtin.ObjectAttr.newKeyGuard
  have hw : Within m (fs.map (·.1)) := fun y hy => by
    have := hm y
    cases e : fs.lookup y with
    | none => rw [e] at this; exact absurd this.none' hy
    | some d => exact List.mem_map.mpr ⟨_, mem_of_lookup e, rfl⟩
  refine wpAny_bind (wpAny_pure (wpAny_bind (wpAny_nsSet1 hn fun h' hn' hs => ?_)))
  obtain ⟨oD, esD, epD, hoD, hdD, hcD⟩ := hn'.count (Within.cons name v hw)
  refine wpAny_bind (wpAny_lookBehind hoD (by rw [hdD]; exact pastItsLine_dict (Nat.le_trans hcD (by rw [List.length_cons, List.length_map, sizeLine_eq]; omega))) ?_)
  refine wpAny_pure ?_
  have rel : ∀ x, OvR Φ₂ (if x = name then some v else m x) ((fs ++ [(name, d)]).lookup x) := fun x => by
    rw [List.lookup_append]
    by_cases hx : x = name
    · subst hx
      rw [if_pos rfl, hno]
      simp only [Option.none_or, List.lookup, beq_self_eq_true]
      exact .so (r.mono st₂.mono)
    · rw [if_neg hx]
      have : ([(name, d)] : List (Str × D)).lookup x = none := by
        simp only [List.lookup]
        have : (x == name) = false := by simpa using hx
        rw [this]
      rw [this, Option.or_none]
      exact hm x
  have st₃ := Step.put1 (tk := s₂.toks + 1 + 1) (t' := .ns (fs ++ [(name, d)])) st₂.ok hd hs ⟨_, hn', rel⟩
  have stt := (st.trans st₂).trans st₃
  exact ⟨.next, ρ, _, Φ₂, stt.same, I.step stt, stt.mono, trivial, q⟩
end
end
section
open PySem.W
section
variable {X : Cx} {n : Nat} {sc : Scope} {names : List Str}
theorem SE_tuple1 {x : Expr} {e : E} {p pos : Pos} (G : Gnd X) (hx : SE X n sc names x e) (hk : sc.names.lookup ("tuple" : Str) = some .globalImplicit) (hs : notStar x = true) :
    SE X n sc names (.Call (.Name "tuple" p) [x] [] pos) (.bi .tuple1 [e]) := by
  intro env A s Φ ρ σ Q he eo hroom ok F h
  refine call_blt1 (P := fun d σ => biT .tuple1 [d] fun r => Q r σ) G (f := "tuple") (fv := .type "tuple") (by simp [bNames]) hx hk hs he eo hroom ok F h ?_
  intro v s₁ d σ₁ Φ₁ st r q
  replace q := bi_of q
  obtain ⟨_, hr, q⟩ := q
  cases hr with
  | tuple1 ds hlen =>
    obtain ⟨a, rfl⟩ := r.lst_ref
    obtain ⟨vs, hl, ra, _⟩ := r.isList st.ok
    have hlv := ra.length
    simp only [Array.length_toList] at hlv
    refine call_tuple_list hl (fun h' hk' => ?_) (by unfold sizeLine; (first | with_reducible exact oo9 ‹_› ‹_› | omega))
    have st' := st.trans (Step.keeps (tk := s₁.toks) st.ok hk')
    have := made_tup (s₁ := { s₁ with heap := h' }) (vs := vs.toList) st' ra q
    simpa using this

end
section
variable {X : Cx} {n : Nat} {sc : Scope} {names : List Str}
end
structure CA where
  C : Addr
  init : Addr
  step : Addr
  back : Addr
  standing : Addr
  places : Addr
  left : Addr
  seats : Addr
noncomputable def attrNames : List Str := ["many", "chairs", "enough", "rows", "states"]
structure CountIs (X : Cx) (c : CA) : Prop where
  mg : X.mg "Count" = some (.ref c.C)
  made : MakeAt X c.C c.init
  attr : ∀ x ∈ attrNames, AttrOk X c.C x
  step : MethAt X c.C "step" c.step
  places : MethAt X c.C "places" c.places
  left : MethAt X c.C "left" c.left
  seats : MethAt X c.C "seats" c.seats
  standing : MethAt X c.C "standing" c.standing
  back : MethAt X c.C "back" c.back
  most : (∃ t, X.mg "MOST_CANDIDATES" = some (.int 12 t)) ∧ (∃ t, X.mg "MOST_BALLOTS" = some (.int 40 t)) ∧ ∃ t, X.mg "MOST_WEIGHT" = some (.int 1000000000 t)
noncomputable def methAt (q : Program) (k j : Nat) : Stmt := match stmtAt q k with
  | .ClassDef _ _ _ body _ _ _ _ _ _ _ => body.getD j (.Pass ⟨0, 0, 0, 0⟩)
  | st => st
noncomputable def fnArgs : Stmt → Arguments
  | .FunctionDef _ args _ _ _ _ _ _ _ _ => args
  | _ => { posonlyargs := [], args := [], vararg := none, kwonlyargs := [], kw_defaults := [], kwarg := none, defaults := [] }

set_option tactic.hygienic true in
theorem fnAt_of {X : Cx} {K : Frag} (hK : K.In X.g) {a : Addr} {o : Obj} {fd : FuncData} {sc : Scope} {ps : List Str} {body : List Stmt} (h1 : K.lookup a = some o) (h2 : o.data = .func fd) (h3 : fd.scope = sc) (h4 : fd.body = .stmts body)
    (h5 : fd.globals = mainGlobals) (h6 : fd.builtins = builtinsNs) (h7 : fd.closure = []) (h8 : codeIn K fd.code fd.qualname = true) (h9 : plainParams fd.params ps = true) (h10 : fd.defaults = .none) : FnAt X a sc ps body := by
  refine ⟨o, fd, hK _ _ h1, h2, h3, h4, h5, h6, h7, codeRec_of hK h8, fun vals hv => ?_⟩
  unfold plainParams at h9
  split at h9
  · rename_i as _ _ hpp
    simp only [Bool.and_eq_true, beq_iff_eq, decide_eq_true_eq] at h9
    obtain ⟨rfl, nd⟩ := h9
    exact bind_plain hpp h10 nd hv
  · cases h9
theorem mg_of {K : Frag} {h : Heap} {mg : Str → Option Value} (hK : K.In h) (G : h.Ns mainGlobals mg) {o : Obj} {es : Array DictEntry} {ep : Nat} (h1 : K.lookup mainGlobals = some o) (h2 : o.data = .dict es ep) {x : Str} {v : Option Value} (h3 : nsFind es x = v) : mg x = v := by
  obtain ⟨o', es', ep', ho, hd, _, hm⟩ := G
  rw [hK _ _ h1] at ho
  cases ho
  rw [h2] at hd
  cases hd
  rw [← hm x, h3]
end
noncomputable def Sg.or (σ σ₁ : Sg) : Sg := fun b => match σ b with
  | some t => some t
  | none => σ₁ b
noncomputable def E.frame (e : E) : E := fun X n ρ σ Q => e X n ρ empS fun d σ₁ => Q d (σ.or σ₁)
section
variable {X : Cx} {n : Nat} {sc : Scope} {names : List Str}
end
noncomputable def M.is_whole : List S :=
  [.ret (.and_ (.bi .isint [(.var 0)]) (.and_ (.not_ (.bi .isbool [(.var 0)])) (.cmp2 .le .le (.var 1) (.var 0) (.var 2))))]
noncomputable def M.is_row_b1 : List S :=
  [.iff (.or_ (.not_ (.call "is_whole" [(.var 3), (.cst (.int 0)), (.bin .sub (.var 1) (.cst (.int 1)))])) (.cmp .in_ (.var 3) (.lst (.upto (.var 0) (.var 2)))))
      [.ret (.cst (.bool false))]
      []]
noncomputable def M.is_row : List S :=
  [.iff (.not_ (.bi .islist [(.var 0)]))
      [.ret (.cst (.bool false))]
      [],
    .for_ [2, 3] (.enum (.var 0)) M.is_row_b1,
    .ret (.cst (.bool true))]
noncomputable def M.is_ballot : List S :=
  [.iff (.or_ (.not_ (.bi .istuple [(.var 0)])) (.cmp .ne (.bi .len [(.var 0)]) (.cst (.int 2))))
      [.ret (.cst (.bool false))]
      [],
    .ret (.and_ (.call "is_whole" [(.idx (.var 0) (.cst (.int 0))), (.cst (.int 1)), (.glob "MOST_WEIGHT")]) (.call "is_row" [(.idx (.var 0) (.cst (.int 1))), (.var 1)]))]
noncomputable def M.need_vote_b1 : List S :=
  [.iff (.not_ (.call "is_ballot" [(.var 3), (.var 0)]))
      [.dead]
      []]
noncomputable def M.need_vote : List S :=
  [.iff (.not_ (.call "is_whole" [(.var 0), (.cst (.int 1)), (.glob "MOST_CANDIDATES")]))
      [.dead]
      [],
    .iff (.not_ (.call "is_whole" [(.var 2), (.cst (.int 1)), (.var 0)]))
      [.dead]
      [],
    .iff (.cmp .gt (.bi .len [(.var 1)]) (.glob "MOST_BALLOTS"))
      [.dead]
      [],
    .for_ [3] (.seq (.var 1)) M.need_vote_b1]
noncomputable def M.parts_b1 : List S :=
  [.asg 4 (.bin .add (.var 4) (.var 6)),
    .asg 7 (.cst (.int 0)),
    .iff (.cmp .gt (.var 2) (.cst (.int 0)))
      [.asg 7 (.bin .sub (.bin .fdiv (.bin .mul (.var 4) (.var 1)) (.var 2)) (.var 5))]
      [],
    .app 3 (.var 7),
    .asg 5 (.bin .add (.var 5) (.var 7))]
noncomputable def M.parts : List S :=
  [.asg 2 (.bi .sum [(.var 0)]),
    .asgM 3 (.disp []),
    .asg 4 (.cst (.int 0)),
    .asg 5 (.cst (.int 0)),
    .for_ [6] (.seq (.var 0)) M.parts_b1,
    .freeze 3,
    .ret (.var 3)]
noncomputable def M.Count_step_p1 : E :=
  (.cmp .ne (.var 17) (.var 14))
noncomputable def M.Count_step_e1 : E :=
  (.var 17)
noncomputable def M.Count_step_p2 : E :=
  (.cmp .eq (.idx (.var 1) (.var 15)) (.var 14))
noncomputable def M.Count_step_e2 : E :=
  (.var 15)
noncomputable def M.Count_step_e3 : E :=
  (.idx (.var 11) (.var 15))
noncomputable def M.Count_step_b1 : List S :=
  [.setI 8 (.var 15) (.borrow [8] (.bin .sub (.idx (.var 8) (.var 15)) (.var 16))),
    .iff (.cmp .gt (.var 16) (.cst (.int 0)))
      [.app 9 (.tupE [(.var 15), (.var 16)])]
      []]
noncomputable def M.Count_step : List S :=
  [.unp [10, 11, 12] (.last (.attr (.var 0) "states")),
    .asg 1 (.meth (.var 0) "places"),
    .asg 2 (.call "held" [(.attr (.var 0) "many"), (.var 1), (.var 11)]),
    .asg 3 (.call "deed_of" [(.var 2), (.var 10), (.bin .sub (.attr (.var 0) "chairs") (.bi .len [(.var 12)])), (.attr (.var 0) "enough")]),
    .iff (.cmp .is_ (.var 3) (.cst .none))
      [.ret (.cst .none)]
      [],
    .unp [13, 14] (.var 3),
    .asg 4 (.lst (.comp M.Count_step_e1 [17] (.seq (.var 10)) (some M.Count_step_p1))),
    .iff (.cmp .eq (.var 13) (.cst (.str "out")))
      [.expr (.appT (.attr (.var 0) "states") (.tupE [(.var 4), (.var 11), (.var 12)])),
      .ret (.var 3)]
      [],
    .asg 5 (.lst (.comp M.Count_step_e2 [15] (.range (.bi .len [(.var 1)])) (some M.Count_step_p2))),
    .asg 6 (.bi .min2 [(.attr (.var 0) "enough"), (.idx (.var 2) (.var 14))]),
    .asg 7 (.call "parts" [(.lst (.comp M.Count_step_e3 [15] (.seq (.var 5)) none)), (.var 6)]),
    .asgM 8 (.ofSeq (.seq (.var 11))),
    .asgM 9 (.disp []),
    .for_ [15, 16] (.zip (.var 5) (.var 7)) M.Count_step_b1,
    .freeze 8,
    .freeze 9,
    .expr (.appT (.attr (.var 0) "states") (.tupE [(.var 4), (.var 8), (.lst (.cat (.var 12) (.lst (.disp [(.tupE [(.var 14), (.var 9)])]))))])),
    .ret (.var 3)]
noncomputable def M.Count_places_e1 : E :=
  (.call "place_of" [(.var 2), (.var 1)])
noncomputable def M.Count_places : List S :=
  [.asg 1 (.idx (.last (.attr (.var 0) "states")) (.cst (.int 0))),
    .ret (.lst (.comp M.Count_places_e1 [2] (.seq (.attr (.var 0) "rows")) none))]
noncomputable def M.Count_left : List S :=
  [.ret (.lst (.ofSeq (.seq (.idx (.last (.attr (.var 0) "states")) (.cst (.int 1))))))]
noncomputable def M.Count_seats_e1 : E :=
  (.tupE [(.var 1), (.lst (.ofSeq (.seq (.var 2))))])
noncomputable def M.Count_seats : List S :=
  [.ret (.lst (.comp M.Count_seats_e1 [1, 2] (.seq (.idx (.last (.attr (.var 0) "states")) (.cst (.int 2)))) none))]
namespace PV
noncomputable def A (ws : List Int) (j : Nat) : Int := (ws.take j).sum
noncomputable def G (ws : List Int) (s : Int) (j : Nat) : Int := if 0 < ws.sum then (A ws j * s).fdiv ws.sum else 0
noncomputable def partsV (ws : List Int) (s : Int) : List Int := (List.range ws.length).map fun j => G ws s (j + 1) - G ws s j

theorem A_succ {ws : List Int} {j : Nat} (hj : j < ws.length) : A ws (j + 1) = A ws j + ws[j] := by
  unfold A
  rw [List.take_succ_eq_append_getElem hj, List.sum_append]
  simp
theorem sum_nn {ws : List Int} (h : ∀ w ∈ ws, 0 ≤ w) : 0 ≤ ws.sum := by
  induction ws with
  | nil => simp
  | cons w ws ih =>
    simp only [List.sum_cons]
    have := h w (by simp)
    have := ih fun x hx => h x (by simp [hx])
    omega
theorem A_nn {ws : List Int} (h : ∀ w ∈ ws, 0 ≤ w) (j : Nat) : 0 ≤ A ws j := sum_nn fun w hw => h w (List.mem_of_mem_take hw)
theorem A_le {ws : List Int} (h : ∀ w ∈ ws, 0 ≤ w) (j : Nat) : A ws j ≤ ws.sum := by
  have e : ws.sum = (ws.take j).sum + (ws.drop j).sum := by rw [← List.sum_append, List.take_append_drop]
  have := sum_nn fun w (hw : w ∈ ws.drop j) => h w (List.mem_of_mem_drop hw)
  unfold A
  omega

theorem sum_le {ws : List Int} {b : Int} (h : ∀ w ∈ ws, w ≤ b) : ws.sum ≤ ws.length * b := by
  induction ws with
  | nil => simp
  | cons w ws ih =>
    simp only [List.sum_cons, List.length_cons]
    have h1 := h w (by simp)
    have h2 := ih fun x hx => h x (by simp [hx])
    have : ((ws.length + 1 : Nat) : Int) * b = ws.length * b + b := by
      rw [Int.natCast_add, Int.add_mul]; simp
    omega

set_option tactic.hygienic true in
theorem G_bounds {ws : List Int} {s : Int} (hw : ∀ w ∈ ws, 0 ≤ w) (hs : 0 ≤ s) (hs' : s ≤ ws.sum) {j : Nat} (hj : j < ws.length) :
    0 ≤ G ws s (j + 1) - G ws s j ∧ G ws s (j + 1) - G ws s j ≤ ws[j] := by
  have hwj := hw ws[j] (List.getElem_mem hj)
  unfold G
  split
  · rename_i ht
    rw [A_succ hj]
    rw [Int.fdiv_eq_ediv_of_nonneg _ (by first | decide | with_reducible exact Int.le_of_lt ‹_› | omega), Int.fdiv_eq_ediv_of_nonneg _ (by first | decide | with_reducible exact Int.le_of_lt ‹_› | omega)]
    have e1 : (A ws j + ws[j]) * s = A ws j * s + ws[j] * s := Int.add_mul ..
    have h1 : 0 ≤ ws[j] * s := Int.mul_nonneg hwj hs
    have h2 : ws[j] * s ≤ ws[j] * ws.sum := Int.mul_le_mul_of_nonneg_left hs' hwj
    constructor
    · have : A ws j * s / ws.sum ≤ (A ws j + ws[j]) * s / ws.sum := Int.ediv_le_ediv ht (by first | decide | omega)
      omega
    · have : (A ws j + ws[j]) * s / ws.sum ≤ (A ws j * s + ws[j] * ws.sum) / ws.sum := Int.ediv_le_ediv ht (by first | decide | omega)
      rw [Int.add_mul_ediv_right _ _ (by first | decide | omega)] at this
      omega
  · omega
end PV
section
variable {X : Cx} {n : Nat} {σ : Sg}
theorem whole3_spec {i lo hi : Int} {Q : D → Sg → Prop} (h0 : lo ≤ i) (h1 : i ≤ hi) (q : Q (.bool true) σ) :
    mExecs X n M.is_whole [.val (.int i), .val (.int lo), .val (.int hi)] σ (fun fl xx σ' => (∀ b, σ b ≠ none → σ' b ≠ none) ∧ Q (flD fl) σ') := by
  simp only [M.is_whole]
  rw [ms_cons]
  simp only [ev_nil, ev_cons, E.var, E.cmp2, E.and_, E.not_, E.bi, S.ret, q_val, c_le, cond_bool, not_bool, f_isint, f_isbool, keepS, flD, g_z, g_s, true_and, decide_eq_true_eq, ms_nil, if_true, Bool.not_false]
  rw [if_pos h0]
  simpa [h1] using q
noncomputable def HasWhole3 (X : Cx) : Prop := ∀ {n : Nat} {σ : Sg} {i lo hi : Int} {Q : D → Sg → Prop}, lo ≤ i → i ≤ hi → Q (.bool true) σ → CallSem X (n + 1) "is_whole" [.int i, .int lo, .int hi] σ Q

theorem is_row_spec (hW : HasWhole3 X) {k : Nat} {row : List Int} {Q : D → Sg → Prop} (hk : k ≤ 100) (hr : RowOk k row) (q : Q (.bool true) σ) :
    mExecs X (n + 1) M.is_row [.val (.lst (row.map D.int)), .val (.int k), .unb, .unb] σ (fun fl xx σ' => (∀ b, σ b ≠ none → σ' b ≠ none) ∧ Q (flD fl) σ') := by
  have hlen := hr.len
  simp only [M.is_row]
  rw [ms_cons]
  simp only [ev_nil, ev_cons, E.var, E.not_, E.bi, S.iff, q_val, cond_bool, not_bool, f_islist, flD, g_z, ms_nil, if_false, Bool.not_true, Bool.false_eq_true]
  rw [ms_cons]
  simp only [E.var, It.enum, S.for_, q_val, q_lst, g_z, List.length_cons, List.length_nil, Nat.zero_add, true_and]
  refine for_inv (fun j ρ σ' => σ' = σ ∧ ∃ (a b : MV), ρ = [.val (.lst (row.map D.int)), .val (.int k), a, b]) ?_ ?_ ?_
  · exact ⟨rfl, .unb, .unb, rfl⟩
  · rintro j hj ρ σ' ⟨rfl, a, b, rfl⟩
    simp only [List.length_mapIdx, List.length_map] at hj
    have hin := hr.inn row[j] (List.getElem_mem hj)
    simp only [List.getElem_mapIdx, List.getElem_map, M.is_row_b1]
    rw [ms_cons]
    simp only [ev_nil, ev_cons, E.cst, E.var, E.bin, E.cmp, E.or_, E.not_, E.lst, E.call, L.upto, S.iff, q_val, q_int, q_lst, b_sub, cond_bool, setAll, g_z, g_s, List.set_cons_zero, List.set_cons_succ, List.length_map, ms_nil, if_true]
    refine hW (by first | decide | with_reducible exact And.left ‹_› | omega) (by first | decide | omega) ?_
    simp only [not_bool, true_and, if_false, Bool.not_true, Bool.false_eq_true]
    have e : List.take (Int.toNat (j : Int)) (row.map D.int) = (row.take j).map D.int := by rw [← List.map_take]; rfl
    rw [e]
    have hnot : row[j] ∉ row.take j := by
      intro hm
      obtain ⟨i, hi, he⟩ := List.getElem_of_mem hm
      rw [List.getElem_take] at he
      have hi' : i < j := by simp at hi; omega
      have := (List.nodup_iff_pairwise_ne.mp hr.nd)
      exact List.pairwise_iff_getElem.mp this i j (by first | decide | with_reducible exact Nat.lt_trans ‹_› ‹_› | omega) hj hi' he
    simp only [c_in, any_int, hnot, decide_false, Bool.false_eq_true, if_false]
    exact ⟨by first | decide | with_reducible exact oo1 _ | omega, by first | decide | with_reducible exact ooc ‹_› ‹_› | omega, rfl, ok_ints 8 _, _, _, rfl⟩
  · rintro ρ σ' ⟨rfl, a, b, rfl⟩
    rw [ms_cons]
    simp only [E.cst, S.ret, keepS, true_and, ms_nil]
    exact q
noncomputable def HasIsRow (X : Cx) : Prop := ∀ {n : Nat} {σ : Sg} {k : Nat} {row : List Int} {Q : D → Sg → Prop}, k ≤ 100 → RowOk k row → Q (.bool true) σ → CallSem X (n + 1 + 1) "is_row" [.lst (row.map D.int), .int k] σ Q

theorem is_ballot_spec (hW : HasWhole3 X) (hR : HasIsRow X) (hG : ∃ t, X.mg "MOST_WEIGHT" = some (.int 1000000000 t)) {k : Nat} {b : Int × List Int} {Q : D → Sg → Prop} (hk : k ≤ 100) (h0 : 1 ≤ b.1) (h1 : b.1 ≤ 1000000000) (hr : RowOk k b.2) (q : Q (.bool true) σ) :
    mExecs X (n + 1 + 1) M.is_ballot [.val (.tup [.int b.1, .lst (b.2.map D.int)]), .val (.int k)] σ (fun fl xx σ' => (∀ b, σ b ≠ none → σ' b ≠ none) ∧ Q (flD fl) σ') := by
  obtain ⟨t, hG⟩ := hG
  simp only [M.is_ballot]
  rw [ms_cons]
  simp only [ev_nil, ev_cons, E.cst, E.var, E.cmp, E.or_, E.not_, E.bi, S.iff, q_val, c_ne, cond_bool, not_bool, f_lenT, f_istup, flD, g_z, List.length_cons, List.length_nil, Nat.zero_add, decide_eq_true_eq, ms_nil, if_true, if_false, Bool.not_true, Bool.false_eq_true]
  refine ⟨by first | decide | omega, ?_⟩
  rw [if_neg (by decide)]
  rw [ms_cons]
  simp only [ev_nil, ev_cons, E.cst, E.var, E.and_, E.idx, E.call, S.ret, q_val, t_0, t_1, g_z, g_s, ms_nil]
  refine ⟨_, t, hG, ?_⟩
  refine hW h0 h1 ?_
  simp only [cond_bool, keepS, true_and, if_true]
  exact hR hk hr ⟨fun xx h => h, q⟩
noncomputable def HasIsBallot (X : Cx) : Prop := ∀ {n : Nat} {σ : Sg} {k : Nat} {b : Int × List Int} {Q : D → Sg → Prop}, k ≤ 100 → 1 ≤ b.1 → b.1 ≤ 1000000000 → RowOk k b.2 → Q (.bool true) σ → CallSem X (n + 1 + 1 + 1) "is_ballot" [.tup [.int b.1, .lst (b.2.map D.int)], .int k] σ Q

theorem need_vote_spec (hW : HasWhole3 X) (hB : HasIsBallot X) (hG1 : ∃ t, X.mg "MOST_CANDIDATES" = some (.int 12 t)) (hG2 : ∃ t, X.mg "MOST_BALLOTS" = some (.int 40 t)) {k : Nat} {B : List (Int × List Int)} {s : Int} {Q : D → Sg → Prop} (hk0 : 1 ≤ k) (hk : k ≤ 12) (hs0 : 1 ≤ s) (hs : s ≤ k) (hBal : Bal k B) (q : Q .none σ) :
    mExecs X (n + 1 + 1 + 1) M.need_vote [.val (.int k), .val (.lst (dB B)), .val (.int s), .unb] σ (fun fl xx σ' => (∀ b, σ b ≠ none → σ' b ≠ none) ∧ Q (flD fl) σ') := by
  obtain ⟨t1, hG1⟩ := hG1
  obtain ⟨t2, hG2⟩ := hG2
  have hlen := hBal.len
  have hdl : (dB B).length = B.length := by simp [dB]
  simp only [M.need_vote]
  rw [ms_cons]
  simp only [ev_nil, ev_cons, E.cst, E.var, E.not_, E.call, S.iff, q_val, cond_bool, flD, g_z, ms_nil]
  refine ⟨_, t1, hG1, ?_⟩
  refine hW (by first | decide | with_reducible exact Int.le_trans ‹_› ‹_› | omega) (by first | decide | omega) ?_
  simp only [not_bool, if_false, Bool.not_true, Bool.false_eq_true]
  rw [ms_cons]
  simp only [ev_nil, ev_cons, E.cst, E.var, E.not_, E.call, S.iff, q_val, cond_bool, g_z, g_s, ms_nil]
  refine hW (by first | decide | with_reducible assumption | omega) (by first | decide | with_reducible assumption | omega) ?_
  simp only [not_bool, if_false, Bool.not_true, Bool.false_eq_true]
  rw [ms_cons]
  simp only [ev_nil, ev_cons, E.var, E.cmp, E.bi, S.iff, q_val, cond_bool, f_len, g_z, g_s, ms_nil]
  refine ⟨by first | decide | with_reducible exact oo9 ‹_› ‹_› | omega, _, t2, hG2, ?_⟩
  simp only [c_gt, decide_eq_true_eq]
  rw [if_neg (by first | decide | omega)]
  rw [ms_cons]
  simp only [E.var, It.seq, S.for_, q_val, q_one, g_z, g_s, List.length_cons, List.length_nil, Nat.zero_add, ms_nil]
  refine for_inv (fun j ρ σ' => σ' = σ ∧ ∃ (a : MV), ρ = [.val (.int k), .val (.lst (dB B)), .val (.int s), a]) ?_ ?_ ?_
  · exact ⟨rfl, .unb, rfl⟩
  · rintro j hj ρ σ' ⟨rfl, a, rfl⟩
    simp only [List.length_map, hdl] at hj
    have hb := List.getElem_mem hj
    have hw := hBal.wt _ hb
    simp only [List.getElem_map, dB, M.need_vote_b1]
    rw [ms_cons]
    simp only [ev_nil, ev_cons, E.var, E.not_, E.call, S.iff, q_val, cond_bool, setAll, g_z, g_s, List.set_cons_zero, List.set_cons_succ, ms_nil]
    refine hB (by first | decide | with_reducible exact oo3 ‹_› | omega) hw.1 hw.2 (hBal.row _ hb) ?_
    simp only [not_bool, true_and, if_false, Bool.not_true, Bool.false_eq_true]
    exact ⟨_, rfl⟩
  · rintro ρ σ' ⟨rfl, a, rfl⟩
    simp only [keepS, true_and]
    exact q
noncomputable def HasNeed (X : Cx) : Prop := ∀ {n : Nat} {σ : Sg} {k : Nat} {B : List (Int × List Int)} {s : Int} {Q : D → Sg → Prop}, 1 ≤ k → k ≤ 12 → 1 ≤ s → s ≤ k → Bal k B → Q .none σ → CallSem X (n + 1 + 1 + 1 + 1) "need_vote" [.int k, .lst (dB B), .int s] σ Q

set_option tactic.hygienic true in
theorem parts_spec {ws : List Int} {s : Int} {Q : D → Sg → Prop} (hl : ws.length ≤ 1000) (hw : ∀ w ∈ ws, 0 ≤ w) (hs : ws.sum < 2 ^ 62) (q : Q (.lst ((PV.partsV ws s).map D.int)) σ) :
    mExecs X n M.parts [.val (.lst (ws.map D.int)), .val (.int s), .unb, .unb, .unb, .unb, .unb, .unb] σ (fun fl xx σ' => (∀ b, σ b ≠ none → σ' b ≠ none) ∧ Q (flD fl) σ') := by
  simp only [M.parts]
  rw [ms_cons]
  simp only [ev_nil, ev_cons, E.var, E.bi, S.asg, q_val, f_sum, flD, g_z, List.set_cons_zero, List.set_cons_succ]
  rw [ms_cons]
  simp only [ev_nil, L.disp, S.asgM, List.set_cons_zero, List.set_cons_succ, List.length_nil]
  refine ⟨by first | decide | omega, ?_⟩
  rw [ms_cons]
  simp only [E.cst, S.asg, List.set_cons_zero, List.set_cons_succ]
  rw [ms_cons]
  simp only [E.cst, S.asg, List.set_cons_zero, List.set_cons_succ]
  rw [ms_cons]
  simp only [E.var, It.seq, S.for_, q_val, q_one, g_z, List.length_cons, List.length_nil, Nat.zero_add]
  refine for_inv (fun j ρ σ' => σ' = σ ∧ ∃ (a b : MV), ρ = [.val (.lst (ws.map D.int)), .val (.int s), .val (.int ws.sum), .mt (((List.range j).map fun j => PV.G ws s (j + 1) - PV.G ws s j).map D.int), .val (.int (PV.A ws j)), .val (.int (PV.G ws s j)), a, b]) ?_ ?_ ?_
  · refine ⟨rfl, .unb, .unb, ?_⟩
    simp [PV.A, PV.G]
  · rintro j hj ρ σ' ⟨rfl, a, b, rfl⟩
    simp only [List.length_map] at hj
    have hA := PV.A_succ hj
    have a0 := PV.A_nn hw (j + 1)
    have a1 := PV.A_le hw (j + 1)
    simp only [List.getElem_map, M.parts_b1]
    have fin : ∀ p, p = PV.G ws s (j + 1) - PV.G ws s j → mExecs X n [.app 3 (.var 7), .asg 5 (.bin .add (.var 5) (.var 7))]
        [.val (.lst (ws.map D.int)), .val (.int s), .val (.int ws.sum), .mt (((List.range j).map fun j => PV.G ws s (j + 1) - PV.G ws s j).map D.int), .val (.int (PV.A ws (j + 1))), .val (.int (PV.G ws s j)), .val (.int ws[j]), .val (.int p)] σ'
        fun fl ρ' σ'' => match fl with
          | .next => σ'' = σ' ∧ ∃ (a b : MV), ρ' = [.val (.lst (ws.map D.int)), .val (.int s), .val (.int ws.sum), .mt (((List.range (j + 1)).map fun j => PV.G ws s (j + 1) - PV.G ws s j).map D.int), .val (.int (PV.A ws (j + 1))), .val (.int (PV.G ws s (j + 1))), a, b]
          | .ret d => (∀ b, σ' b ≠ none → σ'' b ≠ none) ∧ Q (flD (.ret d)) σ'' := by
      rintro p rfl
      rw [ms_cons]
      simp only [E.var, S.app, q_val, q_mt, flD, g_z, g_s, List.set_cons_zero, List.set_cons_succ, List.length_map]
      refine ⟨by simp; (first | with_reducible exact oow ‹_› ‹_› | omega), ?_⟩
      rw [ms_cons]
      simp only [E.var, E.bin, S.asg, q_val, b_add, g_z, g_s, List.set_cons_zero, List.set_cons_succ, true_and, ms_nil]
      have e : PV.G ws s j + (PV.G ws s (j + 1) - PV.G ws s j) = PV.G ws s (j + 1) := by first | decide | omega
      have e2 : ((List.range (j + 1)).map fun j => PV.G ws s (j + 1) - PV.G ws s j).map D.int = ((List.range j).map fun j => PV.G ws s (j + 1) - PV.G ws s j).map D.int ++ [.int (PV.G ws s (j + 1) - PV.G ws s j)] := by simp [List.range_succ]
      rw [e, e2]
      exact ⟨_, _, rfl⟩
    rw [ms_cons]
    simp only [E.var, E.bin, S.asg, q_val, b_add, setAll, g_z, g_s, List.set_cons_zero, List.set_cons_succ]
    rw [← hA]
    rw [ms_cons]
    simp only [E.cst, S.asg, List.set_cons_zero, List.set_cons_succ]
    rw [ms_cons]
    simp only [E.cst, E.var, E.cmp, S.iff, q_val, c_gt, cond_bool, g_z, g_s, decide_eq_true_eq, ms_nil]
    split
    · rename_i ht
      rw [ms_cons]
      simp only [E.var, E.bin, S.asg, q_val, b_sub, b_mul, b_div, g_z, g_s, List.set_cons_zero, List.set_cons_succ, ms_nil]
      refine ⟨.inl ⟨by first | decide | omega, by first | decide | omega⟩, by first | decide | omega, ⟨by first | decide | omega, by first | decide | omega⟩, ?_⟩
      exact fin _ (by simp [PV.G, ht])
    · rename_i ht
      exact fin 0 (by simp [PV.G, ht])
  · rintro ρ σ' ⟨rfl, a, b, rfl⟩
    rw [List.length_map, List.length_map]
    rw [ms_cons]
    simp only [S.freeze, q_mt, g_z, g_s, List.set_cons_zero, List.set_cons_succ]
    rw [ms_cons]
    simp only [E.var, S.ret, q_val, keepS, g_z, g_s, true_and, ms_nil]
    exact q
noncomputable def HasParts (X : Cx) : Prop := ∀ {n : Nat} {σ : Sg} {ws : List Int} {s : Int} {Q : D → Sg → Prop}, ws.length ≤ 1000 → (∀ w ∈ ws, 0 ≤ w) → ws.sum < 2 ^ 62 → Q (.lst ((PV.partsV ws s).map D.int)) σ → CallSem X (n + 1) "parts" [.lst (ws.map D.int), .int s] σ Q
end
structure St where
  std : List Int
  lft : List Int
  fil : List (Int × List (Int × Int))
noncomputable def dBe (bs : List (Int × Int)) : List D := bs.map fun p => .tup [.int p.1, .int p.2]
noncomputable def dFil (f : List (Int × List (Int × Int))) : List D := f.map fun x => .tup [.int x.1, .lst (dBe x.2)]
noncomputable def dSt (s : St) : D := .tup [.lst (s.std.map D.int), .lst (s.lft.map D.int), .lst (dFil s.fil)]
noncomputable def fieldsOf (k : Nat) (B : List (Int × List Int)) (s : Int) (b : Addr) : List (Str × D) :=
  [("many", .int k), ("chairs", .int s), ("enough", .int (quotaV B s)), ("rows", .lst (B.map fun x => .tup (x.2.map D.int))), ("states", .ref b)]
structure CntAt (c : CA) (σ : Sg) (a dx b : Addr) (k : Nat) (B : List (Int × List Int)) (s : Int) (sts : List St) : Prop where
  ins : σ a = some (.inst c.C dx)
  ns : σ dx = some (.ns (fieldsOf k B s b))
  lst : σ b = some (.list (sts.map dSt))

section
variable {k : Nat} {B : List (Int × List Int)} {s : Int} {b : Addr}
theorem lk_many : (fieldsOf k B s b).lookup ("many" : Str) = some (D.int k) := by kernel_rfl
theorem lk_chairs : (fieldsOf k B s b).lookup ("chairs" : Str) = some (.int s) := by kernel_rfl
theorem lk_enough : (fieldsOf k B s b).lookup ("enough" : Str) = some (.int (quotaV B s)) := by kernel_rfl
theorem lk_rows : (fieldsOf k B s b).lookup ("rows" : Str) = some (.lst (B.map fun x => .tup (x.2.map D.int))) := by kernel_rfl
theorem lk_states : (fieldsOf k B s b).lookup ("states" : Str) = some (.ref b) := by kernel_rfl
theorem lk_no {x : Str} (h : (x == ("many" : Str) || x == ("chairs" : Str) || x == ("enough" : Str) || x == ("rows" : Str) || x == ("states" : Str)) = false) : (fieldsOf k B s b).lookup x = none := by
  simp only [Bool.or_eq_false_iff] at h
  obtain ⟨⟨⟨⟨h1, h2⟩, h3⟩, h4⟩, h5⟩ := h
  simp only [fieldsOf, List.lookup, h1, h2, h3, h4, h5]
theorem mem_attr {x : Str} (h : attrNames.contains x = true) : x ∈ attrNames := by simpa using h
end
section
variable {X : Cx} {n : Nat} {σ : Sg} {c : CA} {a dx b : Addr} {k : Nat} {B : List (Int × List Int)} {s : Int} {sts : List St}
theorem x_attr (hc : CountIs X c) (h : CntAt c σ a dx b k B s sts) {name : Str} {d : D} {Q : D → Prop} (hn : attrNames.contains name = true) (hl : (fieldsOf k B s b).lookup name = some d) (q : Q d) :
    ∃ a' C dx fs d, D.ref a = .ref a' ∧ σ a' = some (.inst C dx) ∧ σ dx = some (.ns fs) ∧ AttrOk X C name ∧ fs.lookup name = some d ∧ Q d := ⟨a, c.C, dx, _, d, rfl, h.ins, h.ns, hc.attr name (mem_attr hn), hl, q⟩
theorem x_last (h : CntAt c σ a dx b k B s sts) {st : St} {Q : D → Prop} (hs : sts.getLast? = some st) (hl : sts.length ≤ 1000) (q : Q (dSt st)) : ∃ a' ds d, D.ref b = .ref a' ∧ σ a' = some (.list ds) ∧ ds.length ≤ 2 ^ 20 ∧ ds.getLast? = some d ∧ Q d :=
  ⟨b, _, _, rfl, h.lst, by simp; (first | with_reducible exact oo3 ‹_› | omega), by rw [List.getLast?_map, hs]; rfl, q⟩

theorem dBe_len (bs : List (Int × Int)) : (dBe bs).length = bs.length := by simp [dBe]
theorem dFil_len (f : List (Int × List (Int × Int))) : (dFil f).length = f.length := by simp [dFil]

theorem left_spec (hc : CountIs X c) (h : CntAt c σ a dx b k B s sts) {st : St} {Q : D → Sg → Prop} (hs : sts.getLast? = some st) (hl : sts.length ≤ 1000) (hll : st.lft.length ≤ 1000) (q : Q (.lst (st.lft.map D.int)) σ) :
    mExecs X n M.Count_left [.val (.ref a)] σ (fun fl xx σ' => (∀ b, σ b ≠ none → σ' b ≠ none) ∧ Q (flD fl) σ') := by
  simp only [M.Count_left]
  rw [ms_cons]
  simp only [E.cst, E.var, E.lst, E.idx, L.ofSeq, It.seq, S.ret, q_val, E.attr, E.last, keepS, flD, g_z, true_and, ms_nil]
  refine x_attr hc h rfl lk_states (x_last h hs hl ?_)
  simp only [dSt]
  simp only [q_one, t_1, List.length_map, map_headD]
  exact ⟨by first | decide | with_reducible exact oo3 ‹_› | omega, q⟩

theorem placeT_spec {row st : List Int} {Q : D → Sg → Prop} (q : Q (dO (placeV row st)) σ) :
    mExecs X n M.place [.val (.tup (row.map D.int)), .val (.lst (st.map D.int)), .unb] σ (fun fl xx σ' => (∀ b, σ b ≠ none → σ' b ≠ none) ∧ Q (flD fl) σ') := by
  simp only [M.place]
  rw [ms_cons]
  simp only [E.var, It.seq, S.for_, q_val, q_onet, flD, g_z, List.length_cons, List.length_nil, Nat.zero_add]
  refine for_inv (fun j ρ σ' => σ' = σ ∧ ∃ (a : MV), ρ = [.val (.tup (row.map D.int)), .val (.lst (st.map D.int)), a] ∧ ∀ x ∈ row.take j, decide (x ∈ st) = false) ?_ ?_ ?_
  · exact ⟨rfl, .unb, rfl, by simp⟩
  · rintro j hj ρ σ' ⟨rfl, a, rfl, hx⟩
    simp only [List.length_map] at hj
    simp only [List.getElem_map, M.place_b]
    rw [ms_cons]
    simp only [E.var, E.cmp, S.iff, q_val, cond_bool, setAll, g_z, g_s, List.set_cons_zero, List.set_cons_succ, true_and, decide_eq_false_iff_not, ms_nil]
    simp only [c_in, any_int]
    refine ⟨rfl, ok_ints 8 st, ?_⟩
    by_cases h : row[j] ∈ st
    · simp only [h, decide_true, if_true]
      rw [ms_cons]
      simp only [E.var, S.ret, q_val, keepS, g_z, g_s, true_and, ms_nil]
      have : placeV row st = some row[j] := find_at hj hx (by simpa using h)
      rw [this] at q
      exact q
    · simp only [h, decide_false, Bool.false_eq_true, if_false]
      refine ⟨_, rfl, fun x hx' => ?_⟩
      rw [← List.take_append_getElem hj] at hx'
      rcases List.mem_append.mp hx' with hx' | hx'
      · simpa using hx x hx'
      · rw [List.mem_singleton.mp hx']; exact h
  · rintro ρ σ' ⟨rfl, a, rfl, hx⟩
    simp only [List.length_map, List.take_length] at hx
    rw [ms_cons]
    simp only [E.cst, S.ret, keepS, true_and, ms_nil]
    have : placeV row st = none := find_not hx
    rw [this] at q
    exact q
noncomputable def HasPlaceT (X : Cx) : Prop := ∀ {n : Nat} {σ : Sg} {row st : List Int} {Q : D → Sg → Prop}, Q (dO (placeV row st)) σ → CallSem X (n + 1) "place_of" [.tup (row.map D.int), .lst (st.map D.int)] σ Q

noncomputable def placesF (B : List (Int × List Int)) (std : List Int) : List (Option Int) := B.map fun x => placeV x.2 std

theorem places_spec (hP : HasPlaceT X) (hc : CountIs X c) (h : CntAt c σ a dx b k B s sts) {st : St} {Q : D → Sg → Prop} (hs : sts.getLast? = some st) (hl : sts.length ≤ 1000) (hB : B.length ≤ 1000) (q : Q (.lst ((placesF B st.std).map dO)) σ) :
    mExecs X (n + 1) M.Count_places [.val (.ref a), .unb, .unb] σ (fun fl xx σ' => (∀ b, σ b ≠ none → σ' b ≠ none) ∧ Q (flD fl) σ') := by
  simp only [M.Count_places]
  rw [ms_cons]
  simp only [E.cst, E.var, E.idx, S.asg, q_val, E.attr, E.last, flD, g_z, List.set_cons_zero, List.set_cons_succ]
  refine x_attr hc h rfl lk_states (x_last h hs hl ?_)
  simp only [dSt]
  simp only [t_0]
  rw [ms_cons]
  simp only [E.var, E.lst, L.comp, It.seq, S.ret, q_val, E.attr, g_z, List.length_cons, List.length_nil, Nat.zero_add, ms_nil]
  refine x_attr hc h rfl lk_rows ?_
  simp only [q_one, List.length_map]
  refine ⟨by simp; (first | with_reducible exact oo3 ‹_› | omega), ?_⟩
  refine comp_map (fun xx => true) (fun r => match r with | [.tup ds] => dO (placeV (ds.map fun d => match d with | .int i => i | _ => 0) st.std) | _ => .none) (fun r xx K h => h) (fun r hr xx K h => ?_) ?_
  · simp only [List.map_map, List.mem_map] at hr
    obtain ⟨x, _, rfl⟩ := hr
    simp only [M.Count_places_e1, Function.comp] at h ⊢
    simp only [ev_nil, ev_cons, E.var, E.call, q_val, setAll, g_z, g_s, List.set_cons_zero, List.set_cons_succ]
    refine hP ?_
    have e : (x.2.map D.int).map (fun d => match d with | .int i => i | _ => 0) = x.2 := by rw [List.map_map]; exact List.map_id _
    rw [e] at h
    exact h
  · have e : List.map (fun r : List D => match r with | [.tup ds] => dO (placeV (ds.map fun d => match d with | .int i => i | _ => 0) st.std) | _ => D.none) (List.filter (fun xx => true) ((B.map fun x => D.tup (x.2.map D.int)).map fun d => [d])) = (placesF B st.std).map dO := by
      rw [filter_all, placesF, List.map_map, List.map_map, List.map_map]
      refine List.map_congr_left fun x xx => ?_
      simp only [Function.comp]
      have e : (x.2.map D.int).map (fun d => match d with | .int i => i | _ => 0) = x.2 := by rw [List.map_map]; exact List.map_id _
      rw [e]
    rw [e]
    exact ⟨fun xx h => h, q⟩

theorem seats_spec (hc : CountIs X c) (h : CntAt c σ a dx b k B s sts) {st : St} {Q : D → Sg → Prop} (hs : sts.getLast? = some st) (hl : sts.length ≤ 1000) (hf : st.fil.length ≤ 1000) (hb : ∀ f ∈ st.fil, f.2.length ≤ 1000) (q : Q (.lst (dFil st.fil)) σ) :
    mExecs X n M.Count_seats [.val (.ref a), .unb, .unb] σ (fun fl xx σ' => (∀ b, σ b ≠ none → σ' b ≠ none) ∧ Q (flD fl) σ') := by
  simp only [M.Count_seats]
  rw [ms_cons]
  simp only [E.cst, E.var, E.lst, E.idx, L.comp, It.seq, S.ret, q_val, E.attr, E.last, flD, g_z, List.length_cons, List.length_nil, Nat.zero_add, ms_nil]
  refine x_attr hc h rfl lk_states (x_last h hs hl ?_)
  simp only [dSt]
  simp only [t_2]
  have e0 : dFil st.fil = (st.fil.map fun x => [.int x.1, .lst (dBe x.2)]).map D.tup := by simp [dFil, List.map_map, Function.comp]
  refine ⟨by decide, st.fil.map fun x => [.int x.1, .lst (dBe x.2)], by rw [e0], ?_, by simp; (first | with_reducible exact oo3 ‹_› | omega), ?_⟩
  · intro r hr
    obtain ⟨x, _, rfl⟩ := List.mem_map.mp hr
    rfl
  · refine comp_map (fun xx => true) (fun r => .tup r) (fun r xx K h => h) (fun r hr xx K h => ?_) ?_
    · obtain ⟨x, hx, rfl⟩ := List.mem_map.mp hr
      have := hb x hx
      simp only [M.Count_seats_e1]
      simp only [ev_nil, ev_cons, E.var, E.lst, E.tupE, L.ofSeq, It.seq, q_val, q_one, setAll, g_z, g_s, List.set_cons_zero, List.set_cons_succ, List.length_cons, List.length_nil, Nat.zero_add, List.length_map, map_headD]
      exact ⟨by rw [dBe_len]; (first | with_reducible exact oo3 ‹_› | omega), by first | decide | omega, h⟩
    · rw [filter_all, ← e0]
      exact ⟨fun xx h => h, q⟩
end
inductive Deed where
  | out (c : Int)
  | seat (c : Int)
noncomputable def Deed.who : Deed → Int
  | .out c => c
  | .seat c => c
noncomputable def Deed.word : Deed → Str
  | .out _ => "out"
  | .seat _ => "seated"
noncomputable def dDeed (t : Deed) : D := .tup [.str t.word, .int t.who]
noncomputable def holdF (k : Nat) (B : List (Int × List Int)) (st : St) : List Int := heldL k ((placesF B st.std).zip st.lft)
noncomputable def lyingF (ps : List (Option Int)) (c : Int) : List Nat := (List.range ps.length).filter fun i => decide (ps.getD i none = some c)
noncomputable def restF (l : List Int) (zs : List (Nat × Int)) : List Int := zs.foldl (fun acc z => acc.set z.1 (acc.getD z.1 0 - z.2)) l
noncomputable def bearF (zs : List (Nat × Int)) : List (Int × Int) := (zs.filter fun z => decide (0 < z.2)).map fun z => ((z.1 : Int), z.2)
noncomputable def givenF (k : Nat) (B : List (Int × List Int)) (s : Int) (st : St) (c : Int) : List (Nat × Int) :=
  (lyingF (placesF B st.std) c).zip (PV.partsV ((lyingF (placesF B st.std) c).map fun i => st.lft.getD i 0) (min (quotaV B s) (hold (holdF k B st) c)))
noncomputable def nextS (k : Nat) (B : List (Int × List Int)) (s : Int) (st : St) : Deed → St
  | .out c => ⟨st.std.filter fun x => decide (x ≠ c), st.lft, st.fil⟩
  | .seat c => ⟨st.std.filter fun x => decide (x ≠ c), restF st.lft (givenF k B s st c), st.fil ++ [(c, bearF (givenF k B s st c))]⟩
noncomputable def IsNext (k : Nat) (B : List (Int × List Int)) (s : Int) (st : St) (t : Deed) : Prop :=
  1 ≤ s - st.fil.length ∧ ∃ m, IsMost (holdF k B st) st.std m ∧ match t with
    | .seat c => c = m ∧ ((st.std.length : Int) ≤ s - st.fil.length ∨ quotaV B s ≤ hold (holdF k B st) m)
    | .out c => ¬ ((st.std.length : Int) ≤ s - st.fil.length ∨ quotaV B s ≤ hold (holdF k B st) m) ∧ IsLeast (holdF k B st) st.std c
structure Good (k : Nat) (B : List (Int × List Int)) (s : Int) (st : St) : Prop where
  rise : st.std.Pairwise (· < ·)
  inn : ∀ c ∈ st.std, 0 ≤ c ∧ c < (k : Int)
  llen : st.lft.length = B.length
  lnn : ∀ l ∈ st.lft, 0 ≤ l ∧ l ≤ 1000000000
  room : s - st.fil.length ≤ st.std.length
  fle : (st.fil.length : Int) ≤ s
  fbe : ∀ f ∈ st.fil, f.2.length ≤ 40

set_option tactic.hygienic true in
theorem deed_typed {k : Nat} {B : List (Int × List Int)} {s : Int} {st : St} {d : D} (h : IsDeed (holdF k B st) st.std (s - st.fil.length) (quotaV B s) d) : (s - st.fil.length < 1 ∧ d = .none) ∨ ∃ t, IsNext k B s st t ∧ d = dDeed t := by
  unfold IsDeed at h
  split at h
  · exact .inl ⟨by assumption, h⟩
  · rename_i hs
    obtain ⟨m, hm, h⟩ := h
    right
    split at h
    · rename_i hc
      exact ⟨.seat m, ⟨by first | decide | with_reducible exact Int.not_lt.mp ‹_› | omega, m, hm, rfl, hc⟩, h⟩
    · rename_i hc
      obtain ⟨w, hw, h⟩ := h
      exact ⟨.out w, ⟨by first | decide | with_reducible exact Int.not_lt.mp ‹_› | omega, m, hm, hc, hw⟩, h⟩

theorem i_dO {ps : List (Option Int)} {j : Nat} {Q : D → Prop} (hj : j < ps.length) (hb : j < 1000) (q : Q (dO (ps.getD j none))) : idxT (.lst (ps.map dO)) (.int j) Q := by
  rw [i_lst]
  exact ⟨by first | decide | with_reducible exact oo1 _ | omega, by first | decide | with_reducible exact oon ‹_› | omega, dO (ps.getD j none), by simp [hj, List.getD], q⟩
theorem ok_dO (n : Nat) (p : Option Int) : D.ok n (dO p) = true := by cases p <;> cases n <;> rfl
theorem eqv_dO (p : Option Int) (c : Int) : eqv (dO p) (.int c) = decide (p = some c) := by
  cases p with
  | none => rfl
  | some x =>
    rw [dO, eqv_int]
    by_cases h : x = c
    · simp [h]
    · simp [h]
theorem lying_lt {ps : List (Option Int)} {c : Int} {i : Nat} (h : i ∈ lyingF ps c) : i < ps.length := List.mem_range.mp (List.mem_filter.mp h).1
theorem lying_len (ps : List (Option Int)) (c : Int) : (lyingF ps c).length ≤ ps.length := by
  have := List.length_filter_le (fun i => decide (ps.getD i none = some c)) (List.range ps.length)
  rw [List.length_range] at this
  exact this
theorem rest_len (l : List Int) (zs : List (Nat × Int)) : (restF l zs).length = l.length := by
  unfold restF
  induction zs generalizing l with
  | nil => rfl
  | cons z zs ih => rw [List.foldl_cons, ih]; simp
theorem rest_take {l : List Int} {zs : List (Nat × Int)} {j : Nat} (hj : j < zs.length) : restF l (zs.take (j + 1)) = (restF l (zs.take j)).set zs[j].1 ((restF l (zs.take j)).getD zs[j].1 0 - zs[j].2) := by
  unfold restF
  rw [← List.take_append_getElem hj, List.foldl_append]
  rfl
theorem bear_take {zs : List (Nat × Int)} {j : Nat} (hj : j < zs.length) : bearF (zs.take (j + 1)) = bearF (zs.take j) ++ (if 0 < zs[j].2 then [((zs[j].1 : Int), zs[j].2)] else []) := by
  unfold bearF
  rw [← List.take_append_getElem hj, List.filter_append, List.map_append]
  congr 1
  by_cases h : 0 < zs[j].2
  · simp [h]
  · simp [h]
theorem bear_len (zs : List (Nat × Int)) : (bearF zs).length ≤ zs.length := by
  unfold bearF
  rw [List.length_map]
  exact List.length_filter_le _ _

section
variable {X : Cx} {n : Nat} {σ : Sg} {c : CA} {a dx b : Addr} {k : Nat} {B : List (Int × List Int)} {s : Int} {sts : List St}
noncomputable def HasDeed (X : Cx) : Prop := ∀ {n : Nat} {σ : Sg} {hs st : List Int} {seats many : Int} {Q : D → Sg → Prop}, hs.length ≤ 1000 → st.length ≤ 1000 → (seats < 1 ∨ Stand hs.length st) → (∀ d, IsDeed hs st seats many d → Q d σ) →
  CallSem X (n + 1 + 1) "deed_of" [.lst (hs.map D.int), .lst (st.map D.int), .int seats, .int many] σ Q
noncomputable def HasPlaces (X : Cx) (c : CA) : Prop := ∀ {n : Nat} {σ : Sg} {a dx b : Addr} {k : Nat} {B : List (Int × List Int)} {s : Int} {sts : List St} {st : St} {Q : D → Sg → Prop}, CntAt c σ a dx b k B s sts → sts.getLast? = some st → sts.length ≤ 1000 → B.length ≤ 1000 →
  Q (.lst ((placesF B st.std).map dO)) σ → CallA X (n + 1 + 1) (.ref c.places) [.ref a] σ Q

theorem x_meth {f : Addr} (h : CntAt c σ a dx b k B s sts) {name : Str} {Q : D → Sg → Prop} (hm : MethAt X c.C name f) (hl : (name == ("many" : Str) || name == ("chairs" : Str) || name == ("enough" : Str) || name == ("rows" : Str) || name == ("states" : Str)) = false)
    (q : CallA X n (.ref f) [.ref a] σ Q) : ∃ a' C dx fs f, D.ref a = .ref a' ∧ σ a' = some (.inst C dx) ∧ σ dx = some (.ns fs) ∧ fs.lookup name = none ∧ MethAt X C name f ∧ CallA X n (.ref f) [.ref a'] σ Q :=
  ⟨a, c.C, dx, _, f, rfl, h.ins, h.ns, lk_no hl, hm, q⟩

theorem step_spec (hPl : HasPlaces X c) (hH : HasHeld X) (hD : HasDeed X) (hPa : HasParts X) (hc : CountIs X c) (h : CntAt c σ a dx b k B s sts) {st : St} {Q : D → Sg → Prop} (hs : sts.getLast? = some st) (hl : sts.length ≤ 900) (hk : k ≤ 100) (hB : B.length ≤ 40) (hs0 : 0 ≤ s) (hs1 : s ≤ 100)
    (hrow : ∀ x ∈ B, RowOk k x.2) (hg : Good k B s st) (q0 : s - st.fil.length < 1 → Q .none σ) (q1 : ∀ t, IsNext k B s st t → Q (dDeed t) (σ.put b (.list ((sts ++ [nextS k B s st t]).map dSt)))) :
    mExecs X (n + 1 + 1) M.Count_step [.val (.ref a), .unb, .unb, .unb, .unb, .unb, .unb, .unb, .unb, .unb, .unb, .unb, .unb, .unb, .unb, .unb, .unb, .unb] σ (fun fl xx σ' => (∀ b, σ b ≠ none → σ' b ≠ none) ∧ Q (flD fl) σ') := by
  have hll := hg.llen
  have hfl := hg.fle
  have hsl : st.std.length ≤ k := RowOk.len ⟨hg.rise.imp fun h => Int.ne_of_lt h, hg.inn⟩
  have hpl : (placesF B st.std).length = B.length := by simp [placesF]
  have keep : ∀ t : TObj, ∀ b', σ b' ≠ none → (σ.put b t) b' ≠ none := fun t b' hb => by
    by_cases e : b' = b
    · subst e; rw [Sg.put_self]; simp
    · rw [Sg.put_ne e]; exact hb
  simp only [M.Count_step]
  rw [ms_cons]
  simp only [E.var, S.unp, q_val, E.attr, E.last, flD, g_z, List.length_cons, List.length_nil, Nat.zero_add]
  refine x_attr hc h rfl lk_states (x_last h hs (by first | decide | with_reducible exact oo3 ‹_› | omega) ?_)
  simp only [dSt]
  simp only [q_tup, setAll, List.set_cons_zero, List.set_cons_succ, List.length_cons, List.length_nil, Nat.zero_add, true_and]
  rw [ms_cons]
  simp only [E.var, S.asg, q_val, E.meth, g_z, List.set_cons_zero, List.set_cons_succ]
  refine x_meth h hc.places rfl (hPl h hs (by first | decide | with_reducible exact oo3 ‹_› | omega) (by first | decide | with_reducible exact oo3 ‹_› | omega) ?_)
  rw [ms_cons]
  simp only [ev_nil, ev_cons, E.var, E.call, S.asg, q_val, E.attr, g_z, g_s, List.set_cons_zero, List.set_cons_succ]
  refine x_attr hc h rfl lk_many ?_
  refine hH (by first | decide | with_reducible exact oo3 ‹_› | omega) (fun p hp e he => ?_) ?_
  · obtain ⟨x, hx, rfl⟩ := List.mem_map.mp hp
    exact (hrow x hx).inn e (placeV_in he).1
  have hhl : (holdF k B st).length = k := heldL_len _ _
  show mExecs X (n + 1 + 1) _ [_, _, .val (.lst ((holdF k B st).map D.int)), _, _, _, _, _, _, _, _, _, _, _, _, _, _, _] _ _
  rw [ms_cons]
  simp only [ev_nil, ev_cons, E.var, E.bin, E.call, E.bi, S.asg, q_val, E.attr, f_len, g_z, g_s, List.set_cons_zero, List.set_cons_succ]
  refine x_attr hc h rfl lk_chairs ?_
  simp only [b_sub]
  rw [dFil_len]
  refine ⟨by first | decide | omega, x_attr hc h rfl lk_enough ?_⟩
  refine hD (by first | decide | with_reducible exact oo9 ‹_› ‹_› | omega) (by first | decide | with_reducible exact ooc ‹_› ‹_› | omega) ?_ fun d hd => ?_
  · by_cases hz : s - (st.fil.length : Int) < 1
    · exact .inl hz
    · right
      rw [hhl]
      refine ⟨hg.rise, hg.inn, fun e => ?_⟩
      have := hg.room
      rw [e] at this
      simp at this; omega
  rw [ms_cons]
  simp only [E.cst, E.var, E.cmp, S.iff, q_val, c_is, cond_bool, g_z, g_s, ms_nil]
  rcases deed_typed hd with ⟨hz, rfl⟩ | ⟨t, ht, rfl⟩
  · simp only [D.isNone, if_true]
    rw [ms_cons]
    simp only [E.cst, S.ret, keepS, true_and, ms_nil]
    exact q0 hz
  · simp only [dDeed, D.isNone, Bool.false_eq_true, if_false]
    have htw : t.who ∈ st.std := by
      obtain ⟨_, m, hm, h⟩ := ht
      cases t with
      | out w => exact h.2.1
      | seat w => rw [show (Deed.seat w).who = m from h.1]; exact hm.1
    have hti := hg.inn _ htw
    rw [ms_cons]
    simp only [E.var, S.unp, q_val, q_tup, setAll, g_z, g_s, List.set_cons_zero, List.set_cons_succ, List.length_cons, List.length_nil, Nat.zero_add, true_and]
    rw [ms_cons]
    simp only [E.var, E.lst, L.comp, It.seq, S.asg, q_val, q_one, g_z, g_s, List.set_cons_zero, List.set_cons_succ, List.length_cons, List.length_nil, Nat.zero_add, List.length_map]
    refine ⟨by first | decide | with_reducible exact ooc ‹_› ‹_› | omega, ?_⟩
    refine comp_map (fun r => match r with | [.int x] => decide (x ≠ t.who) | _ => false) (fun r => match r with | [d] => d | _ => .none) (fun r hr K hK => ?_) (fun r hr xx K hK => ?_) ?_
    · simp only [List.map_map, List.mem_map] at hr
      obtain ⟨x, _, rfl⟩ := hr
      simp only [M.Count_step_p1, Function.comp] at hK ⊢
      simp only [cd_some, E.var, E.cmp, q_val, c_ne, setAll, g_z, g_s, List.set_cons_zero, List.set_cons_succ]
      exact hK
    · simp only [List.map_map, List.mem_map] at hr
      obtain ⟨x, _, rfl⟩ := hr
      simp only [M.Count_step_e1, Function.comp] at hK ⊢
      simp only [E.var, q_val, setAll, g_z, g_s, List.set_cons_zero, List.set_cons_succ]
      exact hK
    have e4 : List.map (fun r : List D => match r with | [d] => d | _ => D.none) (List.filter (fun r => match r with | [.int x] => decide (x ≠ t.who) | _ => false) ((st.std.map D.int).map fun d => [d])) = (st.std.filter fun x => decide (x ≠ t.who)).map D.int := by
      rw [List.map_map, List.filter_map, List.map_map]; rfl
    rw [e4]
    rw [ms_cons]
    simp only [E.cst, E.var, E.cmp, S.iff, q_val, cond_bool, g_z, g_s, ms_nil]
    cases t with
    | out w =>
      simp only [Deed.word, c_eqx, eqv_str, beq_self_eq_true, if_true]
      refine ⟨by decide +kernel, by decide +kernel, ?_⟩
      rw [ms_cons]
      simp only [ev_nil, ev_cons, E.var, E.tupE, S.expr, q_val, E.attr, E.appT, g_z, g_s, List.length_cons, List.length_nil, Nat.zero_add]
      refine x_attr hc h rfl lk_states ⟨b, _, rfl, h.lst, by first | decide | omega, _, h.lst, by simp; (first | with_reducible exact oo4 ‹_› | omega), ?_⟩
      rw [ms_cons]
      simp only [E.var, S.ret, q_val, g_z, g_s, ms_nil]
      have := q1 (.out w) ht
      rw [List.map_append] at this
      exact ⟨keep _, this⟩
    | seat w =>
      have hne : (("seated" : Str) == ("out" : Str)) = false := by decide +kernel
      simp only [Deed.word, c_eqx, eqv_str, hne, Bool.false_eq_true, if_false]
      refine ⟨by decide +kernel, by decide +kernel, ?_⟩
      clear e4
      simp only [Deed.who] at htw hti ⊢
      rw [ms_cons]
      simp only [ev_nil, ev_cons, E.var, E.lst, E.bi, L.comp, It.range, S.asg, q_val, q_int, f_len, g_z, g_s, List.set_cons_zero, List.set_cons_succ, List.length_cons, List.length_nil, Nat.zero_add, List.length_map, true_and]
      refine ⟨by simp; (first | with_reducible exact oo9 ‹_› ‹_› | omega), by first | decide | with_reducible exact oo2 _ | omega, by first | decide | with_reducible exact ooa ‹_› ‹_› | omega, by simp; (first | with_reducible exact oo9 ‹_› ‹_› | omega), ?_⟩
      generalize hps : placesF B st.std = ps at *
      refine comp_map (fun r => match r with | [.int x] => decide (ps.getD x.toNat none = some w) | _ => false) (fun r => match r with | [d] => d | _ => .none) (fun r hr K hK => ?_) (fun r hr xx K hK => ?_) ?_
      · obtain ⟨j, hj, rfl⟩ := List.mem_map.mp hr
        have hj' := List.mem_range.mp hj
        simp only [List.length_map, Int.toNat_natCast] at hj'
        simp only [M.Count_step_p2] at hK ⊢
        simp only [cd_some, E.var, E.cmp, E.idx, q_val, setAll, g_z, g_s, List.set_cons_zero, List.set_cons_succ]
        refine i_dO hj' (by first | decide | with_reducible exact ooj ‹_› ‹_› ‹_› | omega) ?_
        simp only [c_eqx, eqv_dO, ok_dO, true_and]
        exact ⟨rfl, hK⟩
      · obtain ⟨j, hj, rfl⟩ := List.mem_map.mp hr
        simp only [M.Count_step_e2] at hK ⊢
        simp only [E.var, q_val, setAll, g_z, g_s, List.set_cons_zero, List.set_cons_succ]
        exact hK
      have e5 : List.map (fun r : List D => match r with | [d] => d | _ => D.none) (List.filter (fun r => match r with | [.int x] => decide (ps.getD x.toNat none = some w) | _ => false) ((List.range ps.length).map fun (j : Nat) => [D.int (j : Int)])) = (lyingF ps w).map fun (i : Nat) => D.int (i : Int) := by
        rw [List.filter_map, List.map_map]; rfl
      rw [Int.toNat_natCast, e5]
      have hly := lying_len ps w
      have hlt : ∀ i ∈ lyingF ps w, i < st.lft.length := fun i hi => by have := lying_lt hi; (first | with_reducible exact oov ‹_› ‹_› ‹_› | omega)
      rw [ms_cons]
      simp only [ev_nil, ev_cons, E.var, E.idx, E.bi, S.asg, q_val, E.attr, i_ints, g_z, g_s, List.set_cons_zero, List.set_cons_succ]
      refine x_attr hc h rfl lk_enough ?_
      simp only [f_min2]
      refine ⟨by first | decide | with_reducible exact And.left ‹_› | omega, by first | decide | with_reducible exact oos ‹_› ‹_› | omega, by first | decide | omega, ?_⟩
      rw [ms_cons]
      simp only [ev_nil, ev_cons, E.var, E.lst, E.call, L.comp, It.seq, S.asg, q_val, q_one, g_z, g_s, List.set_cons_zero, List.set_cons_succ, List.length_cons, List.length_nil, Nat.zero_add, List.length_map]
      refine ⟨by first | decide | with_reducible exact ooi ‹_› ‹_› ‹_› | omega, ?_⟩
      refine comp_map (fun xx => true) (fun r => match r with | [.int x] => .int (st.lft.getD x.toNat 0) | _ => .none) (fun r xx K h => h) (fun r hr xx K hK => ?_) ?_
      · simp only [List.map_map, List.mem_map] at hr
        obtain ⟨i, hi, rfl⟩ := hr
        have := hlt i hi
        simp only [M.Count_step_e3, Function.comp] at hK ⊢
        simp only [E.var, E.idx, q_val, i_ints, setAll, g_z, g_s, List.set_cons_zero, List.set_cons_succ]
        exact ⟨by first | decide | with_reducible exact oo1 _ | omega, by first | decide | with_reducible exact ook ‹_› ‹_› ‹_› | omega, by first | decide | with_reducible exact ood ‹_› | omega, hK⟩
      have e7 : List.map (fun r : List D => match r with | [.int x] => D.int (st.lft.getD x.toNat 0) | _ => D.none) (List.filter (fun xx => true) (((lyingF ps w).map fun (i : Nat) => D.int (i : Int)).map fun d => [d])) = ((lyingF ps w).map fun i => st.lft.getD i 0).map D.int := by
        rw [filter_all, List.map_map, List.map_map, List.map_map]; rfl
      rw [e7]
      have hws : ∀ x ∈ (lyingF ps w).map fun i => st.lft.getD i 0, 0 ≤ x ∧ x ≤ 1000000000 := fun x hx => by
        obtain ⟨i, hi, rfl⟩ := List.mem_map.mp hx
        have := hlt i hi
        rw [show st.lft.getD i 0 = st.lft[i] by simp [List.getD, this]]
        exact hg.lnn _ (List.getElem_mem this)
      have hsum := PV.sum_le fun x hx => (hws x hx).2
      rw [List.length_map] at hsum
      refine hPa (by simp; (first | with_reducible exact ooi ‹_› ‹_› ‹_› | omega)) (fun x hx => (hws x hx).1) (by first | decide | omega) ?_
      generalize hgv : PV.partsV ((lyingF ps w).map fun i => st.lft.getD i 0) (min (quotaV B s) ((holdF k B st).getD w.toNat 0)) = gv
      rw [ms_cons]
      simp only [E.var, L.ofSeq, It.seq, S.asgM, q_val, q_one, g_z, g_s, List.set_cons_zero, List.set_cons_succ, List.length_map, map_headD]
      refine ⟨by first | decide | with_reducible exact oo9 ‹_› ‹_› | omega, ?_⟩
      rw [ms_cons]
      simp only [ev_nil, L.disp, S.asgM, List.set_cons_zero, List.set_cons_succ, List.length_nil]
      refine ⟨by first | decide | omega, ?_⟩
      rw [ms_cons]
      simp only [E.var, It.zip, S.for_, q_val, q_lst, g_z, g_s, List.length_cons, List.length_nil, Nat.zero_add, true_and]
      have e8 : List.map (fun p : D × D => [p.1, p.2]) (((lyingF ps w).map fun (i : Nat) => D.int (i : Int)).zip (gv.map D.int)) = ((lyingF ps w).zip gv).map fun z => [.int (z.1 : Int), .int z.2] := by
        rw [List.zip_map, List.map_map]; rfl
      rw [e8]
      have hz1 : ∀ z ∈ (lyingF ps w).zip gv, z.1 < st.lft.length := fun z hz => hlt _ (List.of_mem_zip (show (z.1, z.2) ∈ _ from hz)).1
      have hzl : ((lyingF ps w).zip gv).length ≤ 40 := by rw [List.length_zip]; omega
      have hzg : (lyingF ps w).zip gv = givenF k B s st w := by rw [← hgv, ← hps]; rfl
      generalize (lyingF ps w).zip gv = zs at *
      refine for_inv (fun j ρ σ' => σ' = σ ∧ ∃ (a15 a16 : MV), ρ = [.val (.ref a), .val (.lst (ps.map dO)), .val (.lst ((holdF k B st).map D.int)), .val (.tup [.str "seated", .int w]), .val (.lst ((st.std.filter fun x => decide (x ≠ w)).map D.int)), .val (.lst ((lyingF ps w).map fun (i : Nat) => D.int (i : Int))),
        .val (.int (min (quotaV B s) ((holdF k B st).getD w.toNat 0))), .val (.lst (gv.map D.int)), .mt ((restF st.lft (zs.take j)).map D.int), .mt (dBe (bearF (zs.take j))), .val (.lst (st.std.map D.int)), .val (.lst (st.lft.map D.int)), .val (.lst (dFil st.fil)), .val (.str "seated"), .val (.int w), a15, a16, .unb]) ?_ ?_ ?_
      · exact ⟨rfl, .unb, .unb, rfl⟩
      · rintro j hj ρ σ' ⟨rfl, a15, a16, rfl⟩
        simp only [List.length_map] at hj
        simp only [List.getElem_map, M.Count_step_b1]
        have hz := hz1 _ (List.getElem_mem hj)
        rw [rest_take hj, bear_take hj]
        have hrl := rest_len st.lft (zs.take j)
        have hbl := bear_len (zs.take j)
        have htk : (zs.take j).length ≤ 40 := by rw [List.length_take]; omega
        generalize restF st.lft (zs.take j) = rs at *
        generalize bearF (zs.take j) = bs at *
        generalize zs[j] = z at *
        rw [ms_cons]
        simp only [E.var, E.bin, E.idx, E.borrow, S.setI, q_val, q_mt, q_int, b_sub, i_ints, setAll, frzAll, at_i, g_z, g_s, List.set_cons_zero, List.set_cons_succ, List.length_map]
        refine ⟨by first | decide | with_reducible exact ooh ‹_› ‹_› ‹_› | omega, by first | decide | with_reducible exact oo1 _ | omega, by first | decide | with_reducible exact ook ‹_› ‹_› ‹_› | omega, by first | decide | with_reducible exact oou ‹_› ‹_› | omega, by first | decide | with_reducible exact oo1 _ | omega, by first | decide | with_reducible exact oou ‹_› ‹_› | omega, ?_⟩
        rw [ms_cons]
        simp only [E.cst, E.var, E.cmp, S.iff, q_val, c_gt, cond_bool, g_z, g_s, true_and, decide_eq_true_eq, ms_nil]
        rw [set_ints, Int.toNat_natCast]
        split
        · rw [ms_cons]
          simp only [ev_nil, ev_cons, E.var, E.tupE, S.app, q_val, q_mt, g_z, g_s, List.set_cons_zero, List.set_cons_succ, List.length_cons, List.length_nil, Nat.zero_add, true_and, ms_nil]
          have e : dBe (bs ++ [((z.1 : Int), z.2)]) = dBe bs ++ [.tup [.int (z.1 : Int), .int z.2]] := by simp [dBe]
          rw [e]
          exact ⟨by rw [dBe_len]; (first | with_reducible exact ooc ‹_› ‹_› | omega), by first | decide | omega, _, _, rfl⟩
        · rw [List.append_nil]
          exact ⟨_, _, rfl⟩
      · rintro ρ σ' ⟨rfl, a15, a16, rfl⟩
        rw [List.length_map, List.take_length]
        rw [ms_cons]
        simp only [S.freeze, q_mt, g_z, g_s, List.set_cons_zero, List.set_cons_succ]
        rw [ms_cons]
        simp only [S.freeze, q_mt, g_z, g_s, List.set_cons_zero, List.set_cons_succ]
        rw [ms_cons]
        simp only [ev_nil, ev_cons, E.var, E.lst, E.tupE, L.disp, L.cat, S.expr, q_val, q_lst, E.attr, E.appT, g_z, g_s, List.length_cons, List.length_nil, Nat.zero_add]
        have e9 : dFil st.fil ++ [D.tup [.int w, .lst (dBe (bearF zs))]] = dFil (st.fil ++ [(w, bearF zs)]) := by simp [dFil]
        refine x_attr hc h rfl lk_states ⟨b, _, rfl, h.lst, by first | decide | omega, by first | decide | omega, by rw [e9, dFil_len]; simp; omega, by first | decide | omega, _, h.lst, by simp; (first | with_reducible exact oo4 ‹_› | omega), ?_⟩
        rw [e9]
        rw [ms_cons]
        simp only [E.var, S.ret, q_val, g_z, g_s, ms_nil]
        have := q1 (.seat w) ht
        rw [List.map_append] at this
        simp only [nextS, ← hzg] at this
        exact ⟨keep _, this⟩
end
theorem hold_set {acc : List Int} {d c : Int} {v : Int} (hd : 0 ≤ d) (hc : 0 ≤ c) (hlt : d < (acc.length : Int)) : hold (acc.set d.toNat v) c = if c = d then v else hold acc c := by
  unfold hold
  by_cases h : c = d
  · subst h
    rw [if_pos rfl]
    have : c.toNat < acc.length := by first | decide | omega
    simp [List.getD, this]
  · rw [if_neg h]
    have : d.toNat ≠ c.toNat := by first | decide | omega
    simp [List.getD, List.getElem?_set, this]

theorem hold_sum {k : Nat} {ps : List (Option Int)} {ls : List Int} (hl : ps.length = ls.length) (hin : ∀ p ∈ ps, ∀ c, p = some c → 0 ≤ c ∧ c < (k : Int)) {c : Int} (hc0 : 0 ≤ c) (hck : c < (k : Int)) : hold (heldL k (ps.zip ls)) c = ((lyingF ps c).map fun i => ls.getD i 0).sum := by
  have key : ∀ j, j ≤ ps.length → hold (heldL k ((ps.zip ls).take j)) c = (((List.range j).filter fun i => decide (ps.getD i none = some c)).map fun i => ls.getD i 0).sum := by
    intro j
    induction j with
    | zero =>
      intro _
      simp only [List.take_zero, heldL, List.foldl_nil, List.range_zero, List.filter_nil, List.map_nil, List.sum_nil, hold]
      simp [List.getD, List.getElem?_replicate]
      split <;> rfl
    | succ j ih =>
      intro hj
      have hjz : j < (ps.zip ls).length := by rw [List.length_zip]; omega
      have hjp : j < ps.length := by first | decide | omega
      have hjl : j < ls.length := by first | decide | with_reducible exact oog ‹_› ‹_› | omega
      rw [heldL_take hjz, List.getElem_zip, List.range_succ, List.filter_append, List.map_append, List.sum_append, ← ih (by first | decide | with_reducible exact Nat.le_of_lt ‹_› | omega)]
      have hp : ps.getD j none = ps[j] := by simp [List.getD, hjp]
      have hq : ls.getD j 0 = ls[j] := by simp [List.getD, hjl]
      have hlen := heldL_len k ((ps.zip ls).take j)
      generalize heldL k ((ps.zip ls).take j) = acc at *
      cases e : ps[j] with
      | none =>
        have : (decide (ps.getD j none = some c)) = false := by rw [hp, e]; simp
        simp only [heldT, List.filter, this, List.map_nil, List.sum_nil, Int.add_zero]
      | some d =>
        have hd := hin _ (List.getElem_mem hjp) d e
        simp only [heldT]
        rw [hold_set hd.1 hc0 (by first | decide | omega)]
        by_cases h : c = d
        · subst h
          have : (decide (ps.getD j none = some c)) = true := by rw [hp, e]; simp
          simp only [List.filter, this, List.map_cons, List.map_nil, List.sum_cons, List.sum_nil, if_true]
          rw [hq]; unfold hold; omega
        · have : (decide (ps.getD j none = some c)) = false := by rw [hp, e]; simpa using fun e => h e.symm
          simp only [List.filter, this, if_neg h, List.map_nil, List.sum_nil, Int.add_zero]
  have := key ps.length (Nat.le_refl _)
  rw [List.take_of_length_le (by rw [List.length_zip]; (first | with_reducible exact Nat.min_le_left _ _ | omega))] at this
  exact this

theorem lying_nd (ps : List (Option Int)) (c : Int) : (lyingF ps c).Nodup := List.nodup_range.filter _

theorem getD_set {l : List Int} {i j : Nat} {v : Int} (hj : j < l.length) : (l.set j v).getD i 0 = if i = j then v else l.getD i 0 := by
  by_cases h : i = j
  · subst h; simp [List.getD, hj]
  · rw [if_neg h]
    have : j ≠ i := fun e => h e.symm
    simp [List.getD, List.getElem?_set, this]

theorem rest_in : ∀ (zs : List (Nat × Int)) (l : List Int), (zs.map (·.1)).Nodup → (∀ z ∈ zs, z.1 < l.length ∧ 0 ≤ z.2 ∧ z.2 ≤ l.getD z.1 0) → (∀ x ∈ l, 0 ≤ x ∧ x ≤ 1000000000) → ∀ x ∈ restF l zs, 0 ≤ x ∧ x ≤ 1000000000
  | [], l, _, _, h => h
  | z :: zs, l, nd, hz, h => by
    simp only [List.map_cons, List.nodup_cons] at nd
    have e : restF l (z :: zs) = restF (l.set z.1 (l.getD z.1 0 - z.2)) zs := rfl
    rw [e]
    have h0 := hz z (by simp)
    refine rest_in zs _ nd.2 (fun y hy => ?_) fun x hx => ?_
    · have hy' := hz y (by simp [hy])
      have hne : y.1 ≠ z.1 := fun q => nd.1 (q ▸ List.mem_map_of_mem hy)
      rw [List.length_set, getD_set h0.1, if_neg hne]
      exact hy'
    · rcases List.mem_or_eq_of_mem_set hx with hx | rfl
      · exact h x hx
      · have hm : l.getD z.1 0 ∈ l := by
          rw [show l.getD z.1 0 = l[z.1]'h0.1 by simp [List.getD, h0.1]]
          exact List.getElem_mem h0.1
        have := h _ hm
        omega

theorem filter_one {l : List Int} {c : Int} (h : l.Pairwise (· < ·)) (hc : c ∈ l) : (l.filter fun x => decide (x ≠ c)).length + 1 = l.length := by
  have nd : l.Nodup := h.imp fun h => Int.ne_of_lt h
  have e : (l.filter fun x => decide (x ≠ c)) = l.erase c := by
    rw [nd.erase_eq_filter]
    refine List.filter_congr fun x xx => ?_
    by_cases hx : x = c <;> simp [hx]
  rw [e, List.length_erase_of_mem hc]
  have := List.length_pos_of_mem hc
  omega

section
variable {k : Nat} {B : List (Int × List Int)} {s : Int} {st : St} {t : Deed}
theorem IsNext.who (h : IsNext k B s st t) : t.who ∈ st.std := by
  obtain ⟨_, m, hm, h⟩ := h
  cases t with
  | out w => exact h.2.1
  | seat w => rw [show (Deed.seat w).who = m from h.1]; exact hm.1
theorem wsum_nn (hB : ∀ x ∈ B, 1 ≤ x.1) : 0 ≤ wsum B := PV.sum_nn fun w hw => by
  obtain ⟨x, hx, rfl⟩ := List.mem_map.mp hw
  have := hB x hx
  first | with_reducible exact oop ‹_› | omega
theorem quota_pos (hB : ∀ x ∈ B, 1 ≤ x.1) (hs : 0 ≤ s) : 1 ≤ quotaV B s := by
  unfold quotaV
  have := Int.fdiv_nonneg (wsum_nn hB) (show 0 ≤ s + 1 by first | decide | omega)
  omega
theorem places_in (hrow : ∀ x ∈ B, RowOk k x.2) (std : List Int) : ∀ p ∈ placesF B std, ∀ c, p = some c → 0 ≤ c ∧ c < (k : Int) := fun p hp c hc => by
  obtain ⟨x, hx, rfl⟩ := List.mem_map.mp hp
  exact (hrow x hx).inn c (placeV_in hc).1

theorem given_in (hB : Bal k B) (hs : 0 ≤ s) (hg : Good k B s st) {c : Int} (hc : c ∈ st.std) :
    ((givenF k B s st c).map (·.1)).Nodup ∧ ∀ z ∈ givenF k B s st c, z.1 < st.lft.length ∧ 0 ≤ z.2 ∧ z.2 ≤ st.lft.getD z.1 0 := by
  have hci := hg.inn c hc
  have hpl : (placesF B st.std).length = st.lft.length := by rw [hg.llen]; simp [placesF]
  have hin := places_in hB.row st.std
  have hsum := hold_sum hpl hin hci.1 hci.2
  unfold givenF
  rw [show holdF k B st = heldL k ((placesF B st.std).zip st.lft) from rfl, hsum]
  generalize hly : lyingF (placesF B st.std) c = ly
  have hlt : ∀ i ∈ ly, i < st.lft.length := fun i hi => by rw [← hly] at hi; have := lying_lt hi; (first | with_reducible exact oog ‹_› ‹_› | omega)
  have hnd : ly.Nodup := hly ▸ lying_nd _ _
  generalize hws : (ly.map fun i => st.lft.getD i 0) = ws
  have hwl : ws.length = ly.length := by rw [← hws]; simp
  have hw : ∀ w ∈ ws, 0 ≤ w := fun w hw => by
    rw [← hws] at hw
    obtain ⟨i, hi, rfl⟩ := List.mem_map.mp hw
    have := hlt i hi
    rw [show st.lft.getD i 0 = st.lft[i] by simp [List.getD, this]]
    exact (hg.lnn _ (List.getElem_mem this)).1
  have q1 := quota_pos (fun x hx => (hB.wt x hx).1) hs
  have q2 := PV.sum_nn hw
  have hgl : (PV.partsV ws (min (quotaV B s) ws.sum)).length = ws.length := by simp [PV.partsV]
  refine ⟨?_, fun z hz => ?_⟩
  · rw [List.map_fst_zip (by first | decide | omega)]
    exact hnd
  · obtain ⟨j, hj, rfl⟩ := List.getElem_of_mem hz
    rw [List.getElem_zip]
    have hj' : j < ly.length := by rw [List.length_zip] at hj; omega
    have hjw : j < ws.length := by first | decide | with_reducible exact ooe ‹_› ‹_› | omega
    refine ⟨hlt _ (List.getElem_mem hj'), ?_⟩
    have := PV.G_bounds (s := min (quotaV B s) ws.sum) hw (by first | decide | omega) (by first | decide | with_reducible exact Int.min_le_right _ _ | omega) hjw
    have e1 : (PV.partsV ws (min (quotaV B s) ws.sum))[j]'(by first | decide | with_reducible exact ooe ‹_› ‹_› | omega) = PV.G ws (min (quotaV B s) ws.sum) (j + 1) - PV.G ws (min (quotaV B s) ws.sum) j := by simp [PV.partsV]
    have e2 : st.lft.getD ly[j] 0 = ws[j] := by simp [← hws]
    simp only [e1, e2]
    first | with_reducible assumption | omega

theorem Good.next (hB : Bal k B) (hs : 0 ≤ s) (hg : Good k B s st) (ht : IsNext k B s st t) : Good k B s (nextS k B s st t) ∧ (nextS k B s st t).std.length + 1 = st.std.length := by
  have hw := ht.who
  have hlen := filter_one hg.rise hw
  have hroom := hg.room
  have hfle := hg.fle
  have hr : (st.std.filter fun x => decide (x ≠ t.who)).Pairwise (· < ·) := hg.rise.sublist List.filter_sublist
  have hi : ∀ c ∈ st.std.filter fun x => decide (x ≠ t.who), 0 ≤ c ∧ c < (k : Int) := fun c hc => hg.inn c (List.mem_filter.mp hc).1
  obtain ⟨h1, m, hm, ht⟩ := ht
  cases t with
  | out w =>
    refine ⟨⟨hr, hi, hg.llen, hg.lnn, ?_, hg.fle, hg.fbe⟩, hlen⟩
    have h2 : ¬ (st.std.length : Int) ≤ s - st.fil.length := fun h => ht.1 (.inl h)
    show s - (st.fil.length : Int) ≤ ((st.std.filter fun x => decide (x ≠ (Deed.out w).who)).length : Int)
    omega
  | seat w =>
    have hgi := given_in hB hs hg hw
    refine ⟨⟨hr, hi, ?_, rest_in _ _ hgi.1 hgi.2 hg.lnn, ?_, ?_, fun f hf => ?_⟩, hlen⟩
    · show (restF st.lft _).length = _
      rw [rest_len]; exact hg.llen
    · show s - ((st.fil ++ [_]).length : Int) ≤ ((st.std.filter fun x => decide (x ≠ (Deed.seat w).who)).length : Int)
      rw [List.length_append, List.length_singleton]
      omega
    · show ((st.fil ++ [_]).length : Int) ≤ s
      rw [List.length_append, List.length_singleton]
      omega
    · rcases List.mem_append.mp hf with hf | hf
      · exact hg.fbe f hf
      · rw [List.mem_singleton.mp hf]
        have h1 := bear_len (givenF k B s st w)
        have h2 : (givenF k B s st w).length ≤ 40 := by
          unfold givenF
          rw [List.length_zip]
          have := lying_len (placesF B st.std) w
          have h3 : (placesF B st.std).length = B.length := by simp [placesF]
          have := hB.len
          omega
        show (bearF (givenF k B s st w)).length ≤ 40
        first | with_reducible exact ooc ‹_› ‹_› | omega
end
noncomputable def st0 (k : Nat) (B : List (Int × List Int)) : St := ⟨(List.range k).map fun (j : Nat) => (j : Int), B.map (·.1), []⟩
inductive Run (k : Nat) (B : List (Int × List Int)) (s : Int) : List (Deed × St) → St → Prop
  | nil : Run k B s [] (st0 k B)
  | snoc {l : List (Deed × St)} {st : St} {t : Deed} : Run k B s l st → IsNext k B s st t → Run k B s (l ++ [(t, st)]) (nextS k B s st t)

section
variable {k : Nat} {B : List (Int × List Int)} {s : Int}
theorem good0 (hB : Bal k B) (hs0 : 1 ≤ s) (hs : s ≤ k) : Good k B s (st0 k B) where
  rise := by
    simp only [st0]
    rw [List.pairwise_map]
    exact List.pairwise_lt_range.imp fun h => by first | decide | with_reducible exact ood ‹_› | omega
  inn := fun c hc => by
    obtain ⟨j, hj, rfl⟩ := List.mem_map.mp hc
    have := List.mem_range.mp hj
    omega
  llen := by simp [st0]
  lnn := fun l hl => by
    obtain ⟨x, hx, rfl⟩ := List.mem_map.mp hl
    have := hB.wt x hx
    omega
  room := by simp [st0]; exact hs
  fle := by simp [st0]; (first | with_reducible exact oop ‹_› | omega)
  fbe := fun f hf => by simp [st0] at hf
theorem Run.good (hB : Bal k B) (hs0 : 1 ≤ s) (hs : s ≤ k) {l : List (Deed × St)} {st : St} (h : Run k B s l st) : Good k B s st ∧ l.length + st.std.length = k := by
  induction h with
  | nil => exact ⟨good0 hB hs0 hs, by simp [st0]⟩
  | snoc _ ht ih =>
    have := ih.1.next hB (by first | decide | with_reducible exact oop ‹_› | omega) ht
    refine ⟨this.1, ?_⟩
    rw [List.length_append, List.length_singleton]
    have := ih.2
    omega
end
section
variable {X : Cx} {n : Nat} {σ : Sg} {c : CA} {a dx b : Addr} {k : Nat} {B : List (Int × List Int)} {s : Int} {sts : List St}
theorem CntAt.push (h : CntAt c σ a dx b k B s sts) (x : St) : CntAt c (σ.put b (.list ((sts ++ [x]).map dSt))) a dx b k B s (sts ++ [x]) where
  ins := by rw [Sg.put_ne (fun e => by have := h.ins; rw [e, h.lst] at this; cases this)]; exact h.ins
  ns := by rw [Sg.put_ne (fun e => by have := h.ns; rw [e, h.lst] at this; cases this)]; exact h.ns
  lst := Sg.put_self _ _ _
theorem keep_put (σ : Sg) (b : Addr) (t : TObj) : ∀ x, σ x ≠ none → (σ.put b t) x ≠ none := fun x hx => by
  by_cases e : x = b
  · subst e; rw [Sg.put_self]; simp
  · rw [Sg.put_ne e]; exact hx

theorem x_setA (hc : CountIs X c) {fs : List (Str × D)} (ha : σ a = some (.inst c.C dx)) (hd : σ dx = some (.ns fs)) {name : Str} {d : D} (hn : attrNames.contains name = true) (hl : fs.lookup name = none) (hf : fs.length ≤ 100) (P : Sg → Prop)
    (q : ∀ σ', σ' a = some (.inst c.C dx) → σ' dx = some (.ns (fs ++ [(name, d)])) → (∀ x, σ x ≠ none → σ' x ≠ none) → (∀ x, x ≠ dx → σ' x = σ x) → P σ') :
    ∃ a' C dx fs, D.ref a = .ref a' ∧ σ a' = some (.inst C dx) ∧ σ dx = some (.ns fs) ∧ fs.length ≤ 100 ∧ AttrOk X C name ∧ fs.lookup name = none ∧ P (σ.put dx (.ns (fs ++ [(name, d)]))) :=
  ⟨a, c.C, dx, fs, rfl, ha, hd, hf, hc.attr name (mem_attr hn), hl, q _ (by rw [Sg.put_ne (fun e => by rw [e, hd] at ha; cases ha)]; exact ha) (Sg.put_self _ _ _) (keep_put _ _ _) fun x hx => Sg.put_ne hx⟩

noncomputable def HasLeft (X : Cx) (c : CA) : Prop := ∀ {n : Nat} {σ : Sg} {a dx b : Addr} {k : Nat} {B : List (Int × List Int)} {s : Int} {sts : List St} {st : St} {Q : D → Sg → Prop}, CntAt c σ a dx b k B s sts → sts.getLast? = some st → sts.length ≤ 1000 → st.lft.length ≤ 1000 →
  Q (.lst (st.lft.map D.int)) σ → CallA X (n + 1) (.ref c.left) [.ref a] σ Q
noncomputable def HasSeats (X : Cx) (c : CA) : Prop := ∀ {n : Nat} {σ : Sg} {a dx b : Addr} {k : Nat} {B : List (Int × List Int)} {s : Int} {sts : List St} {st : St} {Q : D → Sg → Prop}, CntAt c σ a dx b k B s sts → sts.getLast? = some st → sts.length ≤ 1000 → st.fil.length ≤ 1000 → (∀ f ∈ st.fil, f.2.length ≤ 1000) →
  Q (.lst (dFil st.fil)) σ → CallA X (n + 1) (.ref c.seats) [.ref a] σ Q
noncomputable def HasStep (X : Cx) (c : CA) : Prop := ∀ {n : Nat} {σ : Sg} {a dx b : Addr} {k : Nat} {B : List (Int × List Int)} {s : Int} {sts : List St} {st : St} {Q : D → Sg → Prop}, CntAt c σ a dx b k B s sts → sts.getLast? = some st → sts.length ≤ 900 → k ≤ 100 → B.length ≤ 40 → 0 ≤ s → s ≤ 100 →
  (∀ x ∈ B, RowOk k x.2) → Good k B s st → (s - st.fil.length < 1 → Q .none σ) → (∀ t, IsNext k B s st t → Q (dDeed t) (σ.put b (.list ((sts ++ [nextS k B s st t]).map dSt)))) → CallA X (n + 1 + 1 + 1) (.ref c.step) [.ref a] σ Q
end
section
variable {X : Cx} {n : Nat} {σ : Sg} {c : CA} {k : Nat} {B : List (Int × List Int)} {s : Int}
theorem IsMost.eq {hs st : List Int} {a b : Int} (ha : IsMost hs st a) (hb : IsMost hs st b) : a = b := by
  have h1 := ha.2 b hb.1
  have h2 := hb.2 a ha.1
  omega
theorem IsLeast.eq {hs st : List Int} {a b : Int} (ha : IsLeast hs st a) (hb : IsLeast hs st b) : a = b := by
  have h1 := ha.2 b hb.1
  have h2 := hb.2 a ha.1
  omega
theorem IsNext.eq {st : St} {t u : Deed} (h1 : IsNext k B s st t) (h2 : IsNext k B s st u) : t = u := by
  obtain ⟨_, m, hm, h1⟩ := h1
  obtain ⟨_, m', hm', h2⟩ := h2
  obtain rfl := hm.eq hm'
  cases t with
  | out a =>
    cases u with
    | out b => rw [h1.2.eq h2.2]
    | seat b => exact absurd h2.2 h1.1
  | seat a =>
    cases u with
    | out b => exact absurd h1.2 h2.1
    | seat b => rw [h1.1, h2.1]
end
theorem attr_all {X : Cx} {K : W.Frag} (hK : K.In X.g) {C : Addr} (h : (attrNames.all fun x => attrChk K C x) = true) : ∀ x ∈ attrNames, AttrOk X C x := fun x hx => ⟨K, hK, List.all_eq_true.mp h x hx⟩
section
variable {k : Nat} {B : List (Int × List Int)} {s : Int}
set_option tactic.hygienic true in
theorem Run.fn {l : List (Deed × St)} {st st' : St} (h : Run k B s l st) (h' : Run k B s l st') : st = st' := by
  cases h with
  | nil =>
    generalize hl : ([] : List (Deed × St)) = l at h'
    cases h' with
    | nil => rfl
    | snoc _ _ => simp at hl
  | snoc h ht =>
    rename_i l st t
    generalize hl : l ++ [(t, st)] = l' at h'
    cases h' with
    | nil => simp at hl
    | snoc h' ht' =>
      have := List.append_inj' hl rfl
      obtain ⟨_, h2⟩ := this
      simp only [List.cons.injEq, Prod.mk.injEq, and_true] at h2
      obtain ⟨rfl, rfl⟩ := h2
      rfl
set_option tactic.hygienic true in
theorem Run.at {l : List (Deed × St)} {st : St} (h : Run k B s l st) : ∀ j (hj : j < l.length), Run k B s (l.take j) l[j].2 ∧ IsNext k B s l[j].2 l[j].1 := by
  induction h with
  | nil => intro j hj; simp at hj
  | snoc h ht ih =>
    rename_i l st t
    intro j hj
    by_cases hlt : j < l.length
    · rw [List.take_append_of_le_length (by first | decide | with_reducible exact Nat.le_of_lt ‹_› | omega), List.getElem_append_left hlt]
      exact ih j hlt
    · have : j = l.length := by rw [List.length_append, List.length_singleton] at hj; omega
      subst this
      rw [List.take_left', List.getElem_append_right (by first | decide | with_reducible exact Nat.le_refl _ | omega)]
      · simp only [Nat.sub_self, List.getElem_cons_zero]
        exact ⟨h, ht⟩
      · rfl
set_option tactic.hygienic true in
theorem Run.pre {l : List (Deed × St)} {st : St} (h : Run k B s l st) : ∀ {l' : List (Deed × St)} {st' : St}, Run k B s l' st' → s - (st'.fil.length : Int) < 1 → l.length ≤ l'.length ∧ l = l'.take l.length := by
  induction h with
  | nil => intro l' st' _ _; simp
  | snoc h ht ih =>
    rename_i l st t
    intro l' st' h' hf
    obtain ⟨h1, h2⟩ := ih h' hf
    by_cases hlt : l.length < l'.length
    · have ha := h'.at l.length hlt
      rw [← h2] at ha
      have e := ha.1.fn h
      have e2 := ha.2
      rw [e] at e2
      have e3 := e2.eq ht
      refine ⟨by rw [List.length_append, List.length_singleton]; (first | with_reducible exact Nat.succ_le_of_lt ‹_› | omega), ?_⟩
      rw [List.length_append, List.length_singleton, ← List.take_append_getElem hlt, ← h2]
      congr 1
      rw [show l'[l.length] = (l'[l.length].1, l'[l.length].2) from rfl, e, e3]
    · have hl : l'.length = l.length := by first | decide | omega
      rw [← hl, List.take_length] at h2
      subst h2
      have := h'.fn h
      subst this
      have := ht.1
      omega
set_option tactic.hygienic true in
theorem Run.std {l : List (Deed × St)} {st : St} (h : Run k B s l st) : ∀ c, c ∈ st.std ↔ (0 ≤ c ∧ c < (k : Int)) ∧ c ∉ l.map (·.1.who) := by
  induction h with
  | nil =>
    intro c
    simp only [st0, List.mem_map, List.mem_range, List.map_nil, List.not_mem_nil, not_false_eq_true, and_true]
    constructor
    · rintro ⟨j, hj, rfl⟩; omega
    · intro h; exact ⟨c.toNat, by first | decide | omega, by first | decide | omega⟩
  | snoc h ht ih =>
    rename_i l st t
    intro c
    have e : (nextS k B s st t).std = st.std.filter fun x => decide (x ≠ t.who) := by cases t <;> rfl
    rw [e, List.mem_filter, ih c]
    simp only [ne_eq, decide_not, Bool.not_eq_true', decide_eq_false_iff_not, List.map_append, List.map_cons, List.map_nil, List.mem_append, List.mem_singleton, not_or]
    exact and_assoc
theorem nextS_fil (st : St) (t : Deed) : st.fil <+: (nextS k B s st t).fil := by
  cases t with
  | out c => exact List.prefix_refl _
  | seat c => exact List.prefix_append _ _
set_option tactic.hygienic true in
theorem Run.fil {l : List (Deed × St)} {st : St} (h : Run k B s l st) : ∀ {j : Nat} {st' : St}, j ≤ l.length → Run k B s (l.take j) st' → st'.fil <+: st.fil := by
  induction h with
  | nil =>
    intro j st' _ h'
    rw [List.take_nil] at h'
    rw [h'.fn .nil]
    exact List.prefix_refl _
  | snoc h ht ih =>
    rename_i l st t
    intro j st' hj h'
    by_cases hlt : j ≤ l.length
    · rw [List.take_append_of_le_length hlt] at h'
      exact (ih hlt h').trans (nextS_fil st t)
    · rw [List.take_of_length_le (by rw [List.length_append, List.length_singleton]; omega)] at h'
      rw [h'.fn (h.snoc ht)]
      exact List.prefix_refl _

end
noncomputable def ov : Option Int → MV
  | none => .unb
  | some i => .val (.int i)
section
variable {vs : Nat → Value} {k : Nat} {m m' : MV} {ρ ρ' : List MV} {v w : Value} {d e : D} {ds : List D} {P : Prop} {i : Int} {b : Bool}
theorem pn_n : pins vs k [] = [] := rfl
theorem pn_c : pins vs k (m :: ρ) = pin1 (vs k) m :: pins vs (k + 1) ρ := rfl
theorem p1_v : pin1 v (.val d) = .pin v d := rfl
theorem p1_u : pin1 v .unb = .unb := rfl
theorem ra_n : restA [] [] = [] := rfl
theorem ra_c : restA (m :: ρ) (m' :: ρ') = rest1 m m' :: restA ρ ρ' := rfl
theorem r1_p : rest1 (.val e) (.pin v d) = .val e := rfl
theorem r1_u : rest1 m .unb = .unb := rfl
theorem pk_n : pinOk vs k [] = True := rfl
theorem pk_p : pinOk vs k (.pin w d :: ρ) = (w = vs k ∧ pinOk vs (k + 1) ρ) := rfl
theorem pk_u : pinOk vs k (.unb :: ρ) = pinOk vs (k + 1) ρ := propext ⟨fun h => h.2, fun h => ⟨trivial, h⟩⟩
theorem pk_v : pinOk vs k (.val d :: ρ) = pinOk vs (k + 1) ρ := propext ⟨fun h => h.2, fun h => ⟨trivial, h⟩⟩
theorem ln_0 {α : Type} : ([] : List α).length = 0 := rfl
theorem ln_1 {α : Type} {a : α} : [a].length = 1 := rfl
theorem ln_2 {α : Type} {a b : α} : [a, b].length = 2 := rfl
theorem ln_4 {α : Type} {a b c d : α} : [a, b, c, d].length = 4 := rfl
theorem q_pin {P : D → Prop} : (MV.pin v d).onVal P = P d := rfl
theorem fa_n : flAtom .next P = P := rfl
end
noncomputable def Trk (σ : Sg) : List (Int × List (Int × Int)) → List Addr → Prop
  | x :: f, a :: as => σ a = some (.list (dBe x.2)) ∧ Trk σ f as
  | [], [] => True
  | _, _ => False
theorem Trk.len {σ : Sg} : ∀ {f : List (Int × List (Int × Int))} {as : List Addr}, Trk σ f as → as.length = f.length
  | [], [], _ => rfl
  | _ :: _, _ :: _, h => by rw [List.length_cons, List.length_cons, h.2.len]
theorem Trk.at {σ : Sg} : ∀ {f : List (Int × List (Int × Int))} {as : List Addr}, Trk σ f as → ∀ i (h : i < f.length) (h' : i < as.length), σ as[i] = some (.list (dBe f[i].2))
  | _ :: _, _ :: _, h, 0, _, _ => h.1
  | _ :: _, _ :: _, h, i + 1, h1, h2 => h.2.at i (Nat.lt_of_succ_lt_succ h1) (Nat.lt_of_succ_lt_succ h2)
section
variable {X : Cx} {n : Nat} {σ : Sg} {c : CA} {a dx b : Addr} {k : Nat} {B : List (Int × List Int)} {s : Int} {sts : List St}
end
section
variable {k : Nat} {B : List (Int × List Int)} {s : Int}
end
noncomputable def E.dict0 : E := fun xx xx xx σ Q => ∀ a, σ a = none → Q (.ref a) (σ.put a (.imap (fun xx => none) 0))
noncomputable def E.dictAt (o k : E) : E := fun X n ρ σ Q => o X n ρ σ fun x σ => k X n ρ σ fun y σ => ∃ a f m i d, x = .ref a ∧ y = .int i ∧ σ a = some (.imap f m) ∧ f i = some d ∧ Q d σ
noncomputable def S.setD (o k e : E) : S := fun X n ρ σ Q => e X n ρ σ fun d σ => o X n ρ σ fun x σ => k X n ρ σ fun y σ => ∃ a f m i, x = .ref a ∧ y = .int i ∧ σ a = some (.imap f m) ∧ m ≤ 1000 ∧ Q .next ρ (σ.put a (.imap (fun j => if j = i then some d else f j) (m + 1)))
noncomputable def E.int1 (e : E) : E := fun X n ρ σ Q => e X n ρ σ fun x σ => x.onBool fun b => Q (.int (if b = true then 1 else 0)) σ

section
variable {X : Cx} {n : Nat} {sc : Scope} {names : List Str}
theorem SE_dict0 {pos : Pos} : SE X n sc names (.Dict [] [] pos) .dict0 := by
  intro env A s Φ ρ σ Q he eo hroom ok F h
  refine wpAny_Dict_empty ?_
  have n0 : s.heap.get? s.heap.objs.size = none := size_none _
  have k1 : Step X.g s { s with heap := s.heap.push { cls := .type "dict", data := .dict #[] } } Φ Φ σ σ := Step.keeps (tk := s.toks) ok fun b o e => Heap.get?_push_of_some _ e
  exact ⟨_, _, Φ, k1.track ok (t := .imap (fun xx => none) 0) n0 (ok.freshF n0) ⟨_, Heap.IntMap.new _, Heap.DictLe.new _, fun xx => .no⟩, .ref _, h _ (ok.freshS n0)⟩

theorem SE_dictAt {x y : Expr} {o k : E} {pos : Pos} (hx : SE X n sc names x o) (hy : SE X n sc names y k) (hs : notSlice y = true) : SE X n sc names (.Subscript x y pos) (.dictAt o k) := by
  intro env A s Φ ρ σ Q he eo hroom ok F h
  refine Subscript_ (wpAny_mono (hx env A s Φ ρ σ _ he eo hroom ok F h) ?_ fun xx xx h => h.elim)
  rintro v s₁ ⟨d, σ₁, Φ₁, st, r, q⟩
  refine wpAny_mono (hy env A s₁ Φ₁ ρ σ₁ _ he eo hroom st.ok (F.step st) q) ?_ fun xx xx h => h.elim
  rintro w s₂ ⟨d₂, σ₂, Φ₂, st₂, r₂, a, f, m, i, d, rfl, rfl, ha, hf, q₂⟩
  cases r
  cases r₂ with
  | int _ t =>
    obtain ⟨v, hv, hz, hr⟩ := st₂.ok.trk a _ ha
    have hi := hr i
    rw [hf] at hi
    obtain ⟨u, hu, ru⟩ := hi.some'
    exact tail_any hv.typeIs slot_dict_getitem.lookup (wpAny_getItem_intMap hv hu ⟨_, σ₂, Φ₂, (st.trans st₂).trans (Step.tok st₂.ok _), ru, q₂⟩) (subscripted_eq hs)

theorem SS_setD {x y v : Expr} {o k e : E} {p' pos : Pos} (hx : SE X n sc names x o) (hy : SE X n sc names y k) (hv : SE X n sc names v e) (hc : notComp v = true) :
    SS X n sc names (.Assign [.Subscript x y p'] v pos) (.setD o k e) := by
  intro env A s B Φ₀ ρ σ Φ Q he eo hr I h
  refine wpAny_Assign_Subscript (wpAny_mono (hv env A s Φ ρ σ _ he eo hr I.ok I.frame h) ?_ fun xx xx h => h.elim) (swaps_false hc)
  rintro v s₁ ⟨d, σ₁, Φ₁, st, r, q⟩
  refine wpAny_mono (hx env A s₁ Φ₁ ρ σ₁ _ he eo hr st.ok (I.step st).frame q) ?_ fun xx xx h => h.elim
  rintro w s₂ ⟨d₂, σ₂, Φ₂, st₂, r₂, q₂⟩
  refine wpAny_mono (hy env A s₂ Φ₂ ρ σ₂ _ he eo hr st₂.ok (I.step (st.trans st₂)).frame q₂) ?_ fun xx xx h => h.elim
  rintro u s₃ ⟨d₃, σ₃, Φ₃, st₃, r₃, a, f, m, i, rfl, rfl, ha, hm, q₃⟩
  cases r₂
  cases r₃ with
  | int _ t =>
    obtain ⟨g, hg, hz, hr⟩ := st₃.ok.trk a _ ha
    refine wpAny_setItem_intMap_le hg hz (by unfold sizeLine; (first | with_reducible exact oo3 ‹_› | omega)) fun h' hg' hz' hs' => ?_
    have rel : ∀ j, OvR Φ₃ (if j = i then some v else g j) (if j = i then some d else f j) := fun j => by
      by_cases hj : j = i
      · rw [if_pos hj, if_pos hj]; exact .so ((r.mono st₂.mono).mono st₃.mono)
      · rw [if_neg hj, if_neg hj]; exact hr j
    have st₄ := Step.put1 (tk := s₃.toks + 1) (t' := .imap (fun j => if j = i then some d else f j) (m + 1)) st₃.ok ha hs' ⟨_, hg', hz', rel⟩
    have stt := ((st.trans st₂).trans st₃).trans st₄
    exact ⟨.next, ρ, _, Φ₃, stt.same, I.step stt, stt.mono, trivial, q₃⟩

end
noncomputable def E.idxM (i : Nat) (k : E) : E := fun X n ρ σ Q => (ρ.getD i .unb).onMt fun ds => k X n ρ σ fun y σ => y.onInt fun t => 0 ≤ t ∧ t < 2 ^ 63 ∧ ∃ d, ds[t.toNat]? = some d ∧ Q d σ
section
variable {X : Cx} {n : Nat} {sc : Scope} {names : List Str}
theorem SE_idxM {i : Nat} {x : Str} {k : Expr} {ek : E} {p pos : Pos} (hi : names[i]? = some x) (ha : accS sc x = true) (hp : plainName x = true) (hk : SE X n sc names k ek) (hs : notSlice k = true) : SE X n sc names (.Subscript (.Name x p) k pos) (.idxM i ek) := by
  intro env A s Φ ρ σ Q he eo hroom ok F₀ h
  obtain ⟨ds, eds, h⟩ := MV.mt_of h
  refine Subscript_ ?_
  obtain ⟨m, cm, μ, F⟩ := id F₀
  obtain ⟨a, vs, hμ, hlk, hpl, hrd⟩ := F.own hi (acc_of he ha) eds
  simp only [plainName, Bool.and_eq_true, Bool.not_eq_true'] at hp
  refine load_var eo F (acc_of he ha) hlk hp.1 hp.2 ?_
  refine wpAny_mono (hk env A s Φ ρ σ _ he eo hroom ok F₀ h) ?_ fun xx xx h => h.elim
  rintro w s₂ ⟨d₂, σ₂, Φ₂, st₂, r₂, q₂⟩
  obtain ⟨j, rfl, h0, h1, d, hd, q⟩ := D.int_of q₂
  cases r₂ with
  | int _ t =>
    have pr := F.priv a (.inr (.inr ⟨i, hμ⟩))
    obtain ⟨z, hz⟩ := hpl.at fun o ho => st₂.keep a o ho pr.1
    have hL : s₂.heap.IsList a vs := ⟨_, hz, rfl, _, rfl⟩
    obtain ⟨v, hv, rv⟩ := (hrd.mono st₂.mono).get hd
    exact tail_any hL.typeIs slot_list_getitem.lookup (wpAny_getItem_list hL h0 h1 (by simpa using hv) ⟨_, σ₂, Φ₂, st₂, rv, q⟩) (subscripted_eq hs)
end
theorem comp_l {cond elt : List MV → Sg → (D → Sg → Prop) → Prop} {ρ : List MV} {is : List Nat} {σ : Sg} {α : Type} (r : α → List D) (P : α → Bool) (f : α → D) : ∀ (l : List α) {Q : List D → Sg → Prop},
    (∀ x ∈ l, ∀ K : D → Sg → Prop, K (.bool (P x)) σ → cond (setAll ρ is (r x)) σ K) → (∀ x ∈ l, P x = true → ∀ K : D → Sg → Prop, K (f x) σ → elt (setAll ρ is (r x)) σ K) → Q ((l.filter P).map f) σ → compT cond elt ρ is (l.map r) σ Q
  | [], _, _, _, h => h
  | x :: l, Q, hc, he, h => by
    refine hc x List.mem_cons_self _ (show if P x = true then _ else _ from ?_)
    rw [List.filter_cons] at h
    cases hp : P x with
    | true =>
      rw [hp] at h
      exact he x List.mem_cons_self hp _ (comp_l r P f l (fun y hy => hc y (List.mem_cons_of_mem _ hy)) (fun y hy => he y (List.mem_cons_of_mem _ hy)) h)
    | false =>
      rw [hp] at h
      exact comp_l r P f l (fun y hy => hc y (List.mem_cons_of_mem _ hy)) (fun y hy => he y (List.mem_cons_of_mem _ hy)) h
theorem comp_ints {cond elt : List MV → Sg → (D → Sg → Prop) → Prop} {ρ : List MV} {i : Nat} {σ : Sg} (st : List Int) (P : Int → Bool) (f : Int → D) {Q : List D → Sg → Prop}
    (hc : ∀ x ∈ st, ∀ K : D → Sg → Prop, K (.bool (P x)) σ → cond (setAll ρ [i] [.int x]) σ K) (he : ∀ x ∈ st, P x = true → ∀ K : D → Sg → Prop, K (f x) σ → elt (setAll ρ [i] [.int x]) σ K) (q : Q ((st.filter P).map f) σ) : compT cond elt ρ [i] ((st.map D.int).map fun d => [d]) σ Q := by
  rw [List.map_map]
  exact comp_l _ P f st hc he q

noncomputable def M.Count_placesT : List S :=
  [.asg 1 (.idx (.last (.attr (.var 0) "states")) (.cst (.int 0))),
    .ret (.track (.comp M.Count_places_e1 [2] (.seq (.attr (.var 0) "rows")) none))]
noncomputable def M.Count_leftT : List S :=
  [.ret (.track (.ofSeq (.seq (.idx (.last (.attr (.var 0) "states")) (.cst (.int 1))))))]

structure TR (σ : Sg) (f g : Deed × St → List D) (l : List (Deed × St)) (ps : List (Addr × Addr)) : Prop where
  len : ps.length = l.length
  one : ∀ i (h : i < l.length) (h' : i < ps.length), σ ps[i].1 = some (.list (f l[i])) ∧ σ ps[i].2 = some (.list (g l[i]))
structure Apart (ps : List (Addr × Addr)) : Prop where
  fst : ∀ i j (h : i < ps.length) (h' : j < ps.length), ps[i].1 = ps[j].1 → i = j
  snd : ∀ i j (h : i < ps.length) (h' : j < ps.length), ps[i].2 = ps[j].2 → i = j
  mix : ∀ i j (h : i < ps.length) (h' : j < ps.length), ps[i].1 ≠ ps[j].2
section
variable {σ σ' : Sg} {f g : Deed × St → List D} {l : List (Deed × St)} {ps : List (Addr × Addr)}
theorem TR.mono (h : TR σ f g l ps) (k : ∀ p ∈ ps, ∀ t, (σ p.1 = some t → σ' p.1 = some t) ∧ (σ p.2 = some t → σ' p.2 = some t)) : TR σ' f g l ps :=
  ⟨h.len, fun i h1 h2 => ⟨(k _ (List.getElem_mem h2) _).1 (h.one i h1 h2).1, (k _ (List.getElem_mem h2) _).2 (h.one i h1 h2).2⟩⟩
theorem TR.snoc (h : TR σ f g l ps) {x : Deed × St} {a b : Addr} (h1 : σ a = some (.list (f x))) (h2 : σ b = some (.list (g x))) : TR σ f g (l ++ [x]) (ps ++ [(a, b)]) := by
  refine ⟨by simp [h.len], fun i hi hi' => ?_⟩
  by_cases e : i < l.length
  · rw [List.getElem_append_left e, List.getElem_append_left (by rw [h.len]; exact e)]
    exact h.one i e _
  · have e : i = l.length := by rw [List.length_append, List.length_singleton] at hi; omega
    subst e
    rw [List.getElem_append_right (Nat.le_refl _), List.getElem_append_right (by rw [h.len]; exact Nat.le_refl _)]
    simp only [Nat.sub_self, List.getElem_cons_zero, h.len]
    exact ⟨h1, h2⟩
theorem TR.ne (h : TR σ f g l ps) {a : Addr} (ha : σ a = none) : ∀ p ∈ ps, p.1 ≠ a ∧ p.2 ≠ a := fun p hp => by
  obtain ⟨i, hi, rfl⟩ := List.getElem_of_mem hp
  have := h.one i (by rw [← h.len]; exact hi) hi
  exact ⟨(fun e => by rw [e, ha] at this; cases this.1), (fun e => by rw [e, ha] at this; cases this.2)⟩
theorem Apart.snoc (h : Apart ps) {a b : Addr} (hab : a ≠ b) (ha : ∀ p ∈ ps, p.1 ≠ a ∧ p.2 ≠ a) (hb : ∀ p ∈ ps, p.1 ≠ b ∧ p.2 ≠ b) : Apart (ps ++ [(a, b)]) := by
  have at_ : ∀ i (hi : i < (ps ++ [(a, b)]).length), (∃ h : i < ps.length, (ps ++ [(a, b)])[i] = ps[i]) ∨ (i = ps.length ∧ (ps ++ [(a, b)])[i] = (a, b)) := fun i hi => by
    by_cases e : i < ps.length
    · exact .inl ⟨e, List.getElem_append_left e⟩
    · have e : i = ps.length := by rw [List.length_append, List.length_singleton] at hi; omega
      subst e
      exact .inr ⟨rfl, by simp⟩
  refine ⟨fun i j hi hj e => ?_, fun i j hi hj e => ?_, fun i j hi hj => ?_⟩
  · rcases at_ i hi with ⟨h1, e1⟩ | ⟨h1, e1⟩ <;> rcases at_ j hj with ⟨h2, e2⟩ | ⟨h2, e2⟩ <;> rw [e1, e2] at e
    · exact h.fst i j h1 h2 e
    · exact absurd e (ha _ (List.getElem_mem h1)).1
    · exact absurd e.symm (ha _ (List.getElem_mem h2)).1
    · rw [h1, h2]
  · rcases at_ i hi with ⟨h1, e1⟩ | ⟨h1, e1⟩ <;> rcases at_ j hj with ⟨h2, e2⟩ | ⟨h2, e2⟩ <;> rw [e1, e2] at e
    · exact h.snd i j h1 h2 e
    · exact absurd e (hb _ (List.getElem_mem h1)).2
    · exact absurd e.symm (hb _ (List.getElem_mem h2)).2
    · rw [h1, h2]
  · rcases at_ i hi with ⟨h1, e1⟩ | ⟨h1, e1⟩ <;> rcases at_ j hj with ⟨h2, e2⟩ | ⟨h2, e2⟩ <;> rw [e1, e2]
    · exact h.mix i j h1 h2
    · exact (hb _ (List.getElem_mem h1)).1
    · exact fun e => (ha _ (List.getElem_mem h2)).2 e.symm
    · exact hab
end
section
variable {X : Cx} {n : Nat} {σ : Sg} {c : CA} {a dx b : Addr} {k : Nat} {B : List (Int × List Int)} {s : Int} {sts : List St}
theorem CntAt.new (h : CntAt c σ a dx b k B s sts) {a' : Addr} (t : TObj) (ha : σ a' = none) : CntAt c (σ.put a' t) a dx b k B s sts where
  ins := by rw [Sg.put_ne (fun e => by have := h.ins; rw [e, ha] at this; cases this)]; exact h.ins
  ns := by rw [Sg.put_ne (fun e => by have := h.ns; rw [e, ha] at this; cases this)]; exact h.ns
  lst := by rw [Sg.put_ne (fun e => by have := h.lst; rw [e, ha] at this; cases this)]; exact h.lst

theorem leftT_spec (hc : CountIs X c) (h : CntAt c σ a dx b k B s sts) {st : St} {Q : D → Sg → Prop} (hs : sts.getLast? = some st) (hl : sts.length ≤ 1000) (hll : st.lft.length ≤ 1000) (q : ∀ a', σ a' = none → Q (.ref a') (σ.put a' (.list (st.lft.map D.int)))) :
    mExecs X n M.Count_leftT [.val (.ref a)] σ (fun fl xx σ' => (∀ b, σ b ≠ none → σ' b ≠ none) ∧ Q (flD fl) σ') := by
  simp only [M.Count_leftT]
  rw [ms_cons]
  simp only [E.cst, E.var, E.track, E.idx, L.ofSeq, It.seq, S.ret, q_val, E.attr, E.last, flD, g_z, ms_nil]
  refine x_attr hc h rfl lk_states (x_last h hs hl ?_)
  simp only [dSt]
  simp only [q_one, t_1, List.length_map, map_headD]
  exact ⟨by first | decide | with_reducible exact oo3 ‹_› | omega, fun a' ha' => ⟨keep_put _ _ _, q a' ha'⟩⟩

theorem placesT_spec (hP : HasPlaceT X) (hc : CountIs X c) (h : CntAt c σ a dx b k B s sts) {st : St} {Q : D → Sg → Prop} (hs : sts.getLast? = some st) (hl : sts.length ≤ 1000) (hB : B.length ≤ 1000) (q : ∀ a', σ a' = none → Q (.ref a') (σ.put a' (.list ((placesF B st.std).map dO)))) :
    mExecs X (n + 1) M.Count_placesT [.val (.ref a), .unb, .unb] σ (fun fl xx σ' => (∀ b, σ b ≠ none → σ' b ≠ none) ∧ Q (flD fl) σ') := by
  simp only [M.Count_placesT]
  rw [ms_cons]
  simp only [E.cst, E.var, E.idx, S.asg, q_val, E.attr, E.last, flD, g_z, List.set_cons_zero, List.set_cons_succ]
  refine x_attr hc h rfl lk_states (x_last h hs hl ?_)
  simp only [dSt]
  simp only [t_0]
  rw [ms_cons]
  simp only [E.var, E.track, L.comp, It.seq, S.ret, q_val, E.attr, g_z, ln_1, ms_nil]
  refine x_attr hc h rfl lk_rows ?_
  simp only [q_one, List.length_map]
  refine ⟨by simp; (first | with_reducible exact oo3 ‹_› | omega), ?_⟩
  refine comp_map (fun xx => true) (fun r => match r with | [.tup ds] => dO (placeV (ds.map fun d => match d with | .int i => i | _ => 0) st.std) | _ => .none) (fun r xx K h => h) (fun r hr xx K h => ?_) ?_
  · simp only [List.map_map, List.mem_map] at hr
    obtain ⟨x, _, rfl⟩ := hr
    simp only [M.Count_places_e1, Function.comp] at h ⊢
    simp only [ev_nil, ev_cons, E.var, E.call, q_val, setAll, g_z, g_s, List.set_cons_zero, List.set_cons_succ]
    refine hP ?_
    have e : (x.2.map D.int).map (fun d => match d with | .int i => i | _ => 0) = x.2 := by rw [List.map_map]; exact List.map_id _
    rw [e] at h
    exact h
  · have e : List.map (fun r : List D => match r with | [.tup ds] => dO (placeV (ds.map fun d => match d with | .int i => i | _ => 0) st.std) | _ => D.none) (List.filter (fun xx => true) ((B.map fun x => D.tup (x.2.map D.int)).map fun d => [d])) = (placesF B st.std).map dO := by
      rw [filter_all, placesF, List.map_map, List.map_map, List.map_map]
      refine List.map_congr_left fun x xx => ?_
      simp only [Function.comp]
      have e : (x.2.map D.int).map (fun d => match d with | .int i => i | _ => 0) = x.2 := by rw [List.map_map]; exact List.map_id _
      rw [e]
    rw [e]
    exact fun a' ha' => ⟨keep_put _ _ _, q a' ha'⟩

noncomputable def HasPlacesT (X : Cx) (c : CA) : Prop := ∀ {n : Nat} {σ : Sg} {a dx b : Addr} {k : Nat} {B : List (Int × List Int)} {s : Int} {sts : List St} {st : St} {Q : D → Sg → Prop}, CntAt c σ a dx b k B s sts → sts.getLast? = some st → sts.length ≤ 1000 → B.length ≤ 1000 →
  (∀ a', σ a' = none → Q (.ref a') (σ.put a' (.list ((placesF B st.std).map dO)))) → CallA X (n + 1 + 1) (.ref c.places) [.ref a] σ Q
noncomputable def HasLeftT (X : Cx) (c : CA) : Prop := ∀ {n : Nat} {σ : Sg} {a dx b : Addr} {k : Nat} {B : List (Int × List Int)} {s : Int} {sts : List St} {st : St} {Q : D → Sg → Prop}, CntAt c σ a dx b k B s sts → sts.getLast? = some st → sts.length ≤ 1000 → st.lft.length ≤ 1000 →
  (∀ a', σ a' = none → Q (.ref a') (σ.put a' (.list (st.lft.map D.int)))) → CallA X (n + 1) (.ref c.left) [.ref a] σ Q

end
noncomputable def S.track (i : Nat) : S := fun xx xx ρ σ Q => (ρ.getD i .unb).onMt fun ds => ∀ a, σ a = none → Q .next (ρ.set i (.val (.ref a))) (σ.put a (.list ds))
noncomputable def Sg.del (σ : Sg) (a : Addr) : Sg := fun b => if b = a then none else σ b
noncomputable def L.take (e : E) : L := fun X n ρ σ Q => e X n ρ σ fun d σ' => ∃ a ds, d = .ref a ∧ σ a = none ∧ σ' a = some (.list ds) ∧ Q ds (σ'.del a)
noncomputable def L.sorted (e : E) : L := fun X n ρ σ Q => e X n ρ σ fun x σ => ∃ ns : List Int, x = .lst (ns.map D.int) ∧ ns.length < 64 ∧ ∀ ns' : List Int, ns'.Perm ns → ns'.Pairwise (· ≤ ·) → Q (ns'.map D.int) σ

section
variable {X : Cx} {n : Nat} {sc : Scope} {names : List Str} {env : Env} {B Φ₀ Φ : Fz} {ρ : List MV} {σ : Sg}
theorem Inv.track {h : Heap} (I : Inv X env names B Φ₀ ρ σ Φ h) {i : Nat} {x : Str} {ds : List D} (hi : names[i]? = some x) (ha : acc env x) (hm : ρ.getD i .unb = .mt ds) :
    ∃ a, σ a = none ∧ Inv X env names B Φ₀ (ρ.set i (.val (.ref a))) (σ.put a (.list ds)) Φ h := by
  obtain ⟨m, cm, μ, F, hB⟩ := I.fr
  have hlt : i < ρ.length := by
    rw [F.len]
    exact (List.getElem?_eq_some_iff.mp hi).1
  have := F.vars i x hi ha
  rw [hm] at this
  obtain ⟨a, vs, hμ, hlk, hl, hr⟩ := this
  have p := F.priv a (.inr (.inr ⟨i, hμ⟩))
  have hBa := hB a (.inr (.inr ⟨i, hμ⟩))
  have ne : ∀ {b}, Own env (fun j => if j = i then none else μ j) b → Own env μ b ∧ b ≠ a := fun {b} hb => by
    rcases hb with hb | ⟨n, hb⟩ | ⟨j, hb⟩
    · exact ⟨.inl hb, fun q => (F.offm i a hμ).1 (q ▸ hb)⟩
    · exact ⟨.inr (.inl ⟨n, hb⟩), fun q => (F.offm i a hμ).2 n (q ▸ hb)⟩
    · by_cases q : j = i
      · simp only [if_pos q] at hb; cases hb
      · simp only [if_neg q] at hb
        exact ⟨.inr (.inr ⟨j, hb⟩), fun z => q (F.inj j i a (z ▸ hb) hμ)⟩
  refine ⟨a, p.1, ⟨fun b o e => ?_, fun b o e => ?_, fun b t e => ?_⟩, I.mono0, fun b o e => ?_, I.priv, m, cm, fun j => if j = i then none else μ j, { F with len := ?_, priv := fun b hb => ?_, vars := fun j y hj hacc => ?_, inj := fun j l b ej el => ?_, offm := fun j b e => ?_, live := fun j b e => ?_ }, fun b hb => hB b (ne hb).1⟩
  · have hb : b ≠ a := fun q => by rw [q, p.2.2] at e; cases e
    rw [Sg.put_ne hb]; exact I.ok.base b o e
  · have hb : b ≠ a := fun q => by rw [q, p.2.1] at e; cases e
    rw [Sg.put_ne hb]; exact I.ok.frz b o e
  · by_cases hb : b = a
    · subst hb; rw [Sg.put_self] at e; cases e; exact ⟨vs, hl, hr⟩
    · rw [Sg.put_ne hb] at e; exact I.ok.trk b t e
  · have hb : b ≠ a := fun q => by rw [q, hBa] at e; cases e
    rw [Sg.put_ne hb]; exact I.prot b o e
  · rw [List.length_set]; exact F.len
  · have q := F.priv b (ne hb).1
    exact ⟨by rw [Sg.put_ne (ne hb).2]; exact q.1, q.2⟩
  · by_cases q : j = i
    · subst q
      have e : y = x := by rw [hi] at hj; cases hj; rfl
      subst e
      simp only [if_true]
      rw [getD_set_self hlt]
      exact ⟨rfl, _, hlk, .ref a⟩
    · simp only [if_neg q]
      rw [getD_set_ne (Ne.symm q)]
      exact F.vars j y hj hacc
  · by_cases q : j = i
    · simp only [if_pos q] at ej; cases ej
    · by_cases q' : l = i
      · simp only [if_pos q'] at el; cases el
      · simp only [if_neg q] at ej
        simp only [if_neg q'] at el
        exact F.inj j l b ej el
  · by_cases q : j = i
    · simp only [if_pos q] at e; cases e
    · simp only [if_neg q] at e; exact F.offm j b e
  · by_cases q : j = i
    · simp only [if_pos q] at e; cases e
    · simp only [if_neg q] at e; exact F.live j b e
end
mutual
noncomputable def D.noL : D → Bool
  | .lst _ => false
  | .tup ds => D.noLs ds
  | _ => true
noncomputable def D.noLs : List D → Bool
  | [] => true
  | d :: ds => D.noL d && D.noLs ds
end
theorem noLs_all : ∀ {ds : List D}, (∀ d ∈ ds, d.noL = true) → D.noLs ds = true
  | [], _ => rfl
  | d :: ds, h => by
    rw [D.noLs, h d List.mem_cons_self, noLs_all fun x hx => h x (List.mem_cons_of_mem _ hx)]; rfl
mutual
theorem Rd.noL {Φ Φ' : Fz} (hs : ∀ b o, Φ b = some o → o.cls = .type "tuple" → Φ' b = some o) : ∀ {v : Value} {d : D}, Rd Φ v d → d.noL = true → Rd Φ' v d
  | _, _, .none, _ => .none
  | _, _, .bool b, _ => .bool b
  | _, _, .int i t, _ => .int i t
  | _, _, .str x t, _ => .str x t
  | _, _, .tup h c e r, q => .tup (hs _ _ h c) c e (RdAll.noL hs r q)
  | _, _, .lst _ _ _ _ _, q => by cases q
  | _, _, .ref a, _ => .ref a
theorem RdAll.noL {Φ Φ' : Fz} (hs : ∀ b o, Φ b = some o → o.cls = .type "tuple" → Φ' b = some o) : ∀ {vs : List Value} {ds : List D}, RdAll Φ vs ds → D.noLs ds = true → RdAll Φ' vs ds
  | _, _, .nil, _ => .nil
  | _, _, .cons h r, q => by
    simp only [D.noLs, Bool.and_eq_true] at q
    exact .cons (Rd.noL hs h q.1) (RdAll.noL hs r q.2)
end
noncomputable def Sg.on (σ : Sg) (K : Addr → Bool) : Sg := fun b => if K b = true then σ b else none
noncomputable def Sg.off (σ : Sg) (K : Addr → Bool) : Sg := fun b => if K b = true then none else σ b
theorem Sg.on_t {σ : Sg} {K : Addr → Bool} {b : Addr} (h : K b = true) : σ.on K b = σ b := if_pos h
theorem Sg.on_f {σ : Sg} {K : Addr → Bool} {b : Addr} (h : ¬ K b = true) : σ.on K b = none := if_neg h
theorem Sg.off_t {σ : Sg} {K : Addr → Bool} {b : Addr} (h : K b = true) : σ.off K b = none := if_pos h
theorem Sg.off_f {σ : Sg} {K : Addr → Bool} {b : Addr} (h : ¬ K b = true) : σ.off K b = σ b := if_neg h
theorem Sg.on_n {σ : Sg} {K : Addr → Bool} {b : Addr} (h : σ b = none) : σ.on K b = none := by
  by_cases e : K b = true
  · rw [Sg.on_t e]; exact h
  · exact Sg.on_f e
theorem Sg.off_n {σ : Sg} {K : Addr → Bool} {b : Addr} (h : σ b = none) : σ.off K b = none := by
  by_cases e : K b = true
  · exact Sg.off_t e
  · rw [Sg.off_f e]; exact h
theorem Ok.sub {g : Heap} {σ σ' : Sg} {Φ : Fz} {h : Heap} (ok : Ok g σ Φ h) (hs : ∀ b t, σ' b = some t → σ b = some t) : Ok g σ' Φ h := by
  have n : ∀ {b}, σ b = none → σ' b = none := fun {b} e => by
    cases q : σ' b with
    | none => rfl
    | some t => rw [hs b t q] at e; cases e
  exact ⟨fun b o e => ⟨(ok.base b o e).1, n (ok.base b o e).2⟩, fun b o e => ⟨(ok.frz b o e).1, n (ok.frz b o e).2⟩, fun a t e => ok.trk a t (hs a t e)⟩
theorem Sg.on_sub {σ : Sg} {K : Addr → Bool} : ∀ b t, σ.on K b = some t → σ b = some t := fun b t e => by
  by_cases q : K b = true
  · rw [Sg.on_t q] at e; exact e
  · rw [Sg.on_f q] at e; cases e
theorem Sg.off_sub {σ : Sg} {K : Addr → Bool} : ∀ b t, σ.off K b = some t → σ b = some t := fun b t e => by
  by_cases q : K b = true
  · rw [Sg.off_t q] at e; cases e
  · rw [Sg.off_f q] at e; exact e

noncomputable def isL : Option TObj → Bool
  | some (.list _) => true
  | _ => false
noncomputable def unlF (Φ₁ : Fz) (σ : Sg) : Fz := fun b => if isL (σ b) = true then none else Φ₁ b
theorem unlF_t {Φ₁ : Fz} {σ : Sg} {b : Addr} (h : isL (σ b) = true) : unlF Φ₁ σ b = none := if_pos h
theorem unlF_f {Φ₁ : Fz} {σ : Sg} {b : Addr} (h : ¬ isL (σ b) = true) : unlF Φ₁ σ b = Φ₁ b := if_neg h
theorem lendF_f {Φ : Fz} {σ : Sg} {h : Heap} {b : Addr} (e : ¬ isL (σ b) = true) : lendF Φ σ h b = Φ b := by
  unfold lendF
  cases q : Φ b with
  | some o => rfl
  | none =>
    cases r : σ b with
    | none => rfl
    | some t => cases t <;> first | rfl | (rw [r] at e; exact absurd rfl e)
theorem isL_n {σ : Sg} {b : Addr} (h : σ b = none) : ¬ isL (σ b) = true := by rw [h]; simp [isL]
theorem unl_tup {g : Heap} {Φ Φ₁ : Fz} {σ : Sg} {h h₁ : Heap} (ok : Ok g σ Φ h) (fz : ∀ b o, Φ₁ b = some o → h₁.get? b = some o) (hk : ∀ b o, isL (σ b) = true → h.get? b = some o → h₁.get? b = some o) : ∀ b o, Φ₁ b = some o → o.cls = .type "tuple" → unlF Φ₁ σ b = some o := fun b o e c => by
  by_cases q : isL (σ b) = true
  · exfalso
    cases r : σ b with
    | none => rw [r] at q; cases q
    | some t =>
      cases t with
      | list ds =>
        obtain ⟨vs, ⟨n, hl⟩, _⟩ := ok.trk b _ r
        have := (hk b _ q hl).symm.trans (fz b o e)
        cases this
        have : (("list" : String) = "tuple") := by injection c
        revert this; decide
      | _ => rw [r] at q; cases q
  · rw [unlF_f q]; exact e

section
variable {X : Cx} {n : Nat} {sc : Scope} {names : List Str} {env : Env} {ρ : List MV} {σ : Sg} {Φ : Fz}
theorem vars_lend {h : Heap} {m cm : Str → Option Value} {μ : Nat → Option Addr} (he : env.scope = sc) (F : FrameX X.g env names ρ σ Φ h m cm μ) (σl : Sg) (okl : Ok X.g σl Φ h) : ∀ (is : List Nat) (es : List D) (ρ' : List MV), lendS sc names is = true → chOk σl ρ is es → ρ'.length = ρ.length →
    (∀ i x, names[i]? = some x → acc env x → VRel (lendF Φ σl h) h (look env m cm x) (μ i) (ρ'.getD i .unb)) →
      (setAll ρ' is es).length = ρ.length ∧ ∀ i x, names[i]? = some x → acc env x → VRel (lendF Φ σl h) h (look env m cm x) (μ i) ((setAll ρ' is es).getD i .unb) := by
  intro is
  induction is with
  | nil =>
    intro es ρ' _ hc hlen hv
    cases es with
    | nil => exact ⟨hlen, hv⟩
    | cons => exact hc.elim
  | cons j is ih =>
    intro es ρ' hl hc hlen hv
    cases es with
    | nil => exact hc.elim
    | cons e es =>
      obtain ⟨hc1, hc2⟩ := hc
      simp only [lendS, List.all_cons, Bool.and_eq_true] at hl
      refine ih es (ρ'.set j (.val e)) hl.2 hc2 (by rw [List.length_set]; exact hlen) fun i x hi ha => ?_
      by_cases q : i = j
      · subst q
        have hlt : i < ρ'.length := by rw [hlen, F.len]; exact (List.getElem?_eq_some_iff.mp hi).1
        rw [getD_set_self hlt]
        obtain ⟨d, hd, hder⟩ := MV.val_of hc1
        have old := F.vars i x hi ha
        rcases hd with hd | ⟨v, hd⟩ <;> rw [hd] at old
        · obtain ⟨h1, v, h2, h3⟩ := old; exact ⟨h1, v, h2, hder.rd okl h3⟩
        · obtain ⟨h1, h2, h3⟩ := old; exact ⟨h1, v, h2, hder.rd okl h3⟩
      · rw [getD_set_ne (Ne.symm q)]; exact hv i x hi ha
theorem Frame.lend {h : Heap} {is : List Nat} {es : List D} (he : env.scope = sc) (ok : Ok X.g σ Φ h) (F : Frame X.g env names ρ σ Φ h) (hl : lendS sc names is = true) (hc : chOk σ ρ is es) : Frame X.g env names (setAll ρ is es) empS (lendF Φ σ h) h := by
  obtain ⟨m, cm, μ, F⟩ := F
  obtain ⟨h1, h2⟩ := vars_lend he F σ ok is es ρ hl hc rfl fun i x hi ha => (F.vars i x hi ha).mono lendF_le fun xx xx xx e => e
  exact ⟨m, cm, μ, { F with len := h1.trans F.len, priv := fun a ha => by have p := F.priv a ha; exact ⟨rfl, lendF_none p.2.1 p.1, p.2.2⟩, vars := h2 }⟩
theorem Ok.lent {h : Heap} (ok : Ok X.g σ Φ h) : Ok X.g empS (lendF Φ σ h) h := ⟨fun b o e => ⟨(ok.base b o e).1, rfl⟩, fun xx xx e => ⟨lendF_in ok e, rfl⟩, fun xx xx e => by cases e⟩
theorem Step.unlentF {s s₁ : Shared} {Φ₁ : Fz} {σ₁ : Sg} (ok : Ok X.g σ Φ s.heap) (st : Step X.g s s₁ (lendF Φ σ s.heap) Φ₁ empS σ₁) : Step X.g s s₁ Φ (unlF Φ₁ σ) σ σ := by
  have le : Fz.le Φ (unlF Φ₁ σ) := fun b o e => by rw [unlF_f (isL_n (ok.frz b o e).2)]; exact st.mono b o (lendF_le b o e)
  have out : ∀ b, unlF Φ₁ σ b ≠ none → Φ b ≠ none ∨ s.heap.get? b = none := fun b hb => by
    by_cases q : isL (σ b) = true
    · exact absurd (unlF_t q) hb
    · rw [unlF_f q] at hb
      rcases st.newF b hb with h | h | h
      · rw [lendF_f q] at h; exact .inl h
      · exact absurd rfl h
      · exact .inr h
  refine ⟨st.same, fun b o e xx => st.keep b o e rfl, le, ⟨fun b o e => ⟨(st.ok.base b o e).1, (ok.base b o e).2⟩, fun b o e => ?_, fun a t e => (ok.trk a t e).mono le fun o ho => st.keep a o ho rfl⟩, fun xx h => .inl h, fun b hb => (out b hb).elim .inl fun h => .inr (.inr h), st.live⟩
  have hn : unlF Φ₁ σ b ≠ none := by rw [e]; simp
  refine ⟨?_, ?_⟩
  · by_cases q : isL (σ b) = true
    · exact absurd (unlF_t q) hn
    · rw [unlF_f q] at e; exact (st.ok.frz b o e).1
  · rcases out b hn with h | h
    · cases r : Φ b with
      | none => exact absurd r h
      | some o' => exact (ok.frz b o' r).2
    · exact ok.freshS h
end
noncomputable def E.lendE (ch : List Nat) (e : E) : E := fun X n ρ σ Q => ∃ es, chOk σ ρ ch es ∧ e X n (setAll ρ ch es) empS fun d xx => d.noL = true ∧ Q d σ
noncomputable def L.lendL (ch : List Nat) (l : L) : L := fun X n ρ σ Q => ∃ es, chOk σ ρ ch es ∧ l X n (setAll ρ ch es) empS fun ds xx => D.noLs ds = true ∧ Q ds σ
section
variable {X : Cx} {n : Nat} {sc : Scope} {names : List Str}
theorem SE_lendE {x : Expr} {e : E} {ch : List Nat} (hl : lendS sc names ch = true) (hx : SE X n sc names x e) : SE X n sc names x (.lendE ch e) := by
  intro env A s Φ ρ σ Q he eo hroom ok F h
  obtain ⟨es, hc, h⟩ := h
  refine wpAny_mono (hx env A s _ _ empS _ he eo hroom ok.lent (Frame.lend he ok F hl hc) h) ?_ fun xx xx h => h.elim
  rintro v s₁ ⟨d, σ₁, Φ₁, st, r, hf, q⟩
  exact ⟨d, σ, _, Step.unlentF ok st, r.noL (unl_tup ok (fun b o e => (st.ok.frz b o e).1) fun b o xx e => st.keep b o e rfl) hf, q⟩
theorem ST_lendT {x : Expr} {e : E} {ch : List Nat} (hl : lendS sc names ch = true) (hx : ST X n sc names x e) : ST X n sc names x (.lendE ch e) := by
  intro env A s Φ ρ σ Q P he eo hr ok F hq h
  obtain ⟨es, hc, h⟩ := h
  refine wpAny_mono (hx env A s _ _ empS _ (fun b xx => P b σ) he eo hr ok.lent (Frame.lend he ok F hl hc) (fun d σ' hd => hq d σ hd.2) h) ?_ fun xx xx h => h.elim
  rintro b s₁ ⟨σ₁, Φ₁, st, p⟩
  exact ⟨σ, _, Step.unlentF ok st, p⟩
theorem SL_lendL {x : Expr} {l : L} {ch : List Nat} (hl : lendS sc names ch = true) (hx : SL X n sc names x l) : SL X n sc names x (.lendL ch l) := by
  intro env A s Φ ρ σ Q he eo hroom ok F h
  obtain ⟨es, hc, h⟩ := h
  refine wpAny_mono (hx env A s _ _ empS _ he eo hroom ok.lent (Frame.lend he ok F hl hc) h) ?_ fun xx xx h => h.elim
  rintro v s₁ ⟨a, vs, ds, σ₁, Φ₁, rfl, st, hn, hpl, h1, h2, r, hf, q⟩
  have hs := ok.freshS hn
  exact ⟨a, vs, ds, σ, _, rfl, Step.unlentF ok st, hn, hpl, hs, by rw [unlF_f (isL_n hs)]; exact h2, r.noL (unl_tup ok (fun b o e => (st.ok.frz b o e).1) fun b o xx e => st.keep b o e rfl) hf, q⟩
end
noncomputable def flatT : Option TObj → Prop
  | some (.list ds) => D.noLs ds = true
  | _ => False
noncomputable def S.lendA (ch : List Nat) (m : S) : S := fun X n ρ σ Q => ∃ (K : Addr → Bool) (es : List D), chOk (σ.off K) ρ ch es ∧ (∀ b, K b = true → isL (σ b) = true) ∧ ∀ vs, m X n (pins vs 0 (setAll ρ ch es)) (σ.on K) fun fl ρ' σ' => flAtom fl (pinOk vs 0 ρ' ∧ (∀ b, K b = true → flatT (σ' b)) ∧ Q fl (restA ρ ρ') (fun b => if K b = true then σ' b else σ b))
noncomputable def S.sink (i : Nat) : S := fun xx xx ρ σ Q => (ρ.getD i .unb).onVal fun d => ∃ (K : Addr → Bool) (e : D), (∀ b, K b = true → isL (σ b) = true) ∧ Der (σ.on K) d e ∧ Q .next (ρ.set i (.val e)) (σ.off K)
noncomputable def E.clearT (o : E) : E := fun X n ρ σ Q => o X n ρ σ fun x σ => ∃ a ds, x = .ref a ∧ σ a = some (.list ds) ∧ ds.length ≤ 2 ^ 20 ∧ Q .none (σ.put a (.list []))
noncomputable def E.popT (o : E) : E := fun X n ρ σ Q => o X n ρ σ fun x σ => ∃ a ds d, x = .ref a ∧ σ a = some (.list (ds ++ [d])) ∧ ds.length < 2 ^ 20 ∧ Q d (σ.put a (.list ds))
noncomputable def E.lenT (o : E) : E := fun X n ρ σ Q => o X n ρ σ fun x σ => ∃ a ds, x = .ref a ∧ σ a = some (.list ds) ∧ ds.length ≤ 2 ^ 20 ∧ Q (.int ds.length) σ
noncomputable def S.unpL (is : List Nat) (e : E) : S := fun X n ρ σ Q => e X n ρ σ fun d σ => d.onLst fun ds => ds.length = is.length ∧ Q .next (setAll ρ is ds) σ

section
variable {X : Cx} {n : Nat} {sc : Scope} {names : List Str}
set_option tactic.hygienic true in
theorem SS_lendA {st : Stmt} {m : S} {ch : List Nat} (hl : lendS sc names ch = true) (hst : SS X n sc names st m) : SS X n sc names st (.lendA ch m) := by
  intro env A s B Φ₀ ρ σ Φ Q he eo hr I h
  obtain ⟨K, es, hch, hK, hb⟩ := h
  obtain ⟨m, cm, μ, F, hB⟩ := I.fr
  let vs : Nat → Value := fun i => match names[i]? with
    | some x => (look env m cm x).getD .none
    | none => .none
  have vs_at : ∀ {i x v}, names[i]? = some x → look env m cm x = some v → vs i = v := fun {i x v} h1 h2 => by
    show (match names[i]? with | some x => (look env m cm x).getD .none | none => .none) = v
    rw [h1]; show (look env m cm x).getD .none = v; rw [h2]; rfl
  -- what the statement must leave alone
  let B' : Fz := fun b => match σ.off K b with
    | none => B b
    | some _ => s.heap.get? b
  have B'n : ∀ {b}, σ.off K b = none → B' b = B b := fun {b} e => by show (match σ.off K b with | none => B b | some _ => s.heap.get? b) = _; rw [e]
  have B's : ∀ {b t}, σ.off K b = some t → B' b = s.heap.get? b := fun {b t} e => by show (match σ.off K b with | none => B b | some _ => s.heap.get? b) = _; rw [e]
  have loc : ∀ b, σ.off K b = none ∨ ∃ t, σ.off K b = some t := fun b => by
    cases σ.off K b with
    | none => exact .inl rfl
    | some t => exact .inr ⟨t, rfl⟩
  have okf : Ok X.g (σ.off K) Φ s.heap := I.ok.sub Sg.off_sub
  obtain ⟨len2, vars2⟩ := vars_lend he F (σ.off K) okf ch es ρ hl hch rfl fun i x hi ha => (F.vars i x hi ha).mono lendF_le fun xx xx xx e => e
  have ok' : Ok X.g (σ.on K) (lendF Φ (σ.off K) s.heap) s.heap := by
    refine ⟨fun b o e => ⟨(I.ok.base b o e).1, Sg.on_n (I.ok.base b o e).2⟩, fun b o e => ⟨lendF_in okf e, ?_⟩, fun a t e => (I.ok.trk a t (Sg.on_sub a t e)).mono lendF_le fun xx h => h⟩
    by_cases q : isL (σ.off K b) = true
    · by_cases k : K b = true
      · rw [Sg.off_t k] at q; cases q
      · exact Sg.on_f k
    · rw [lendF_f q] at e
      exact Sg.on_n (I.ok.frz b o e).2
  have I' : Inv X env names B' (lendF Φ (σ.off K) s.heap) (pins vs 0 (setAll ρ ch es)) (σ.on K) (lendF Φ (σ.off K) s.heap) s.heap := by
    refine ⟨ok', Fz.le.refl _, fun b o e => ?_, fun xx xx h => h, m, cm, μ, { F with len := ?_, priv := fun a ha => ?_, vars := fun i x hi ha => ?_ }, fun a ha => ?_⟩
    · rcases loc b with q | ⟨t, q⟩
      · rw [B'n q] at e; exact ⟨(I.prot b o e).1, Sg.on_n (I.prot b o e).2⟩
      · rw [B's q] at e
        refine ⟨e, ?_⟩
        by_cases k : K b = true
        · rw [Sg.off_t k] at q; cases q
        · exact Sg.on_f k
    · rw [pins_len, len2]; exact F.len
    · have p := F.priv a ha; exact ⟨Sg.on_n p.1, lendF_none p.2.1 (Sg.off_n p.1), p.2.2⟩
    · rw [pins_get, Nat.zero_add]
      have v2 := vars2 i x hi ha
      cases e : (setAll ρ ch es).getD i .unb with
      | val d => rw [e] at v2; obtain ⟨h1, v, h2, h3⟩ := v2; exact ⟨h1, by rw [vs_at hi h2]; exact h2, by rw [vs_at hi h2]; exact h3⟩
      | _ => rw [e] at v2; exact v2
    · rw [B'n (Sg.off_n (F.priv a ha).1)]; exact hB a ha
  refine wpAny_mono (hst env A s B' (lendF Φ (σ.off K) s.heap) _ (σ.on K) _ _ he eo hr I' (hb vs)) ?_ fun xx xx h => h.elim
  rintro f s₁ ⟨fl, ρ₁, σ₁, Φ₁, ⟨h₁, tk₁, rfl⟩, I₁, le₁, fr, q⟩
  obtain ⟨m₁, cm₁, μ₁, F₁, hB₁⟩ := I₁.fr
  have key : ∀ Q' : Prop, flAtom fl Q' → FlRel (unlF Φ₁ (σ.off K)) f fl ∧ Q' := by
    intro Q' hq
    cases fl with
    | next => cases f <;> simp only [FlRel] at fr ⊢; exact ⟨trivial, hq⟩
    | ret d =>
      cases f <;> simp only [FlRel] at fr ⊢
      obtain ⟨ha, hq⟩ := D.atom_of (show d.onAtom Q' from hq)
      exact ⟨fr.atom ha, hq⟩
  obtain ⟨fr, hpin, hflat, q⟩ := key _ q
  have hlen : ρ₁.length = ρ.length := by rw [F₁.len, F.len]
  have le : Fz.le Φ (unlF Φ₁ (σ.off K)) := fun b o e => by rw [unlF_f (isL_n (Sg.off_n (I.ok.frz b o e).2))]; exact le₁ b o (lendF_le b o e)
  -- what is frozen now and was not lent
  have out : ∀ b o, unlF Φ₁ (σ.off K) b = some o → Φ₁ b = some o ∧ ¬ isL (σ.off K b) = true := fun b o e => by
    by_cases q : isL (σ.off K b) = true
    · rw [unlF_t q] at e; cases e
    · rw [unlF_f q] at e; exact ⟨e, q⟩
  have tupk : ∀ b o, Φ₁ b = some o → o.cls = .type "tuple" → unlF Φ₁ (σ.off K) b = some o := unl_tup (h := s.heap) (h₁ := h₁) okf (fun b o e => (I₁.ok.frz b o e).1) fun b o q e => by
    rcases loc b with z | ⟨t, z⟩
    · rw [z] at q; cases q
    · exact (I₁.prot b o (by rw [B's z]; exact e)).1
  refine ⟨fl, restA ρ ρ₁, _, unlF Φ₁ (σ.off K), ⟨h₁, tk₁, rfl⟩, ⟨⟨fun b o e => ⟨(I₁.ok.base b o e).1, ?_⟩, fun b o e => ⟨(I₁.ok.frz b o (out b o e).1).1, ?_⟩, fun a t e => ?_⟩, I.mono0.trans le, fun b o e => ?_, fun b hb hf => ?_, m₁, cm₁, μ₁,
    { F₁ with len := ?_, priv := fun a ha => ?_, vars := fun i x hi ha => ?_ }, fun a ha => ?_⟩, le, fr, q⟩
  · show (if K b = true then σ₁ b else σ b) = none
    split
    · exact (I₁.ok.base b o e).2
    · exact (I.ok.base b o e).2
  · show (if K b = true then σ₁ b else σ b) = none
    split
    · exact (I₁.ok.frz b o (out b o e).1).2
    · rename_i hk
      cases z : σ b with
      | none => rfl
      | some t =>
        exfalso
        have zf : σ.off K b = some t := by rw [Sg.off_f hk]; exact z
        have hB' : B' b ≠ none := by
          obtain ⟨o', ho'⟩ := (I.ok.trk b t z).isSome
          rw [B's zf, ho']; simp
        have := I₁.priv b hB' (by rw [(out b o e).1]; simp)
        rw [lendF_f (out b o e).2] at this
        cases w : Φ b with
        | none => exact this w
        | some o' => have := (I.ok.frz b o' w).2; rw [z] at this; cases this
  · replace e : (if K a = true then σ₁ a else σ a) = some t := e
    by_cases hk : K a = true
    · rw [if_pos hk] at e
      have hfl := hflat a hk
      rw [e] at hfl
      cases t with
      | list ds =>
        obtain ⟨ws, h1, h2⟩ := I₁.ok.trk a _ e
        exact ⟨ws, h1, h2.noL tupk hfl⟩
      | _ => exact hfl.elim
    · rw [if_neg hk] at e
      have zf : σ.off K a = some t := by rw [Sg.off_f hk]; exact e
      exact (I.ok.trk a t e).mono le fun o ho => (I₁.prot a o (by rw [B's zf]; exact ho)).1
  · have p := I.prot b o e
    refine ⟨(I₁.prot b o (by rw [B'n (Sg.off_n p.2)]; exact e)).1, ?_⟩
    show (if K b = true then σ₁ b else σ b) = none
    split
    · exact (I₁.prot b o (by rw [B'n (Sg.off_n p.2)]; exact e)).2
    · exact p.2
  · cases w : B b with
    | none => exact absurd w hb
    | some o =>
      have p := I.prot b o w
      have hn : ¬ isL (σ.off K b) = true := isL_n (Sg.off_n p.2)
      rw [unlF_f hn] at hf
      have := I₁.priv b (by rw [B'n (Sg.off_n p.2)]; exact hb) hf
      rw [lendF_f hn] at this
      exact I.priv b hb this
  · rw [restA_len ρ ρ₁ hlen]; exact F.len
  · have p := F₁.priv a ha
    have hb := hB₁ a ha
    have hoff : σ.off K a = none := by
      rcases loc a with q | ⟨t, q⟩
      · exact q
      · obtain ⟨o, ho⟩ := (I.ok.trk a t (Sg.off_sub a t q)).isSome
        rw [B's q, ho] at hb; cases hb
    refine ⟨?_, ?_, p.2.2⟩
    · show (if K a = true then σ₁ a else σ a) = none
      split
      · exact p.1
      · rename_i hk; rw [Sg.off_f hk] at hoff; exact hoff
    · rw [unlF_f (isL_n hoff)]; exact p.2.1
  · rw [restA_get ρ ρ₁ i hlen]
    have v1 := F₁.vars i x hi ha
    obtain ⟨p1, p2⟩ := pinOk_get i hpin
    cases e : ρ₁.getD i .unb with
    | unb => rw [e] at v1; exact v1
    | val d =>
      rw [e] at v1
      obtain ⟨h1, v, h2, h3⟩ := v1
      cases d <;> first | exact h1 | exact ⟨h1, v, h2, h3.atom rfl⟩
    | mt ds => rw [e] at v1; obtain ⟨a, ws, h1, h2, h3, h4⟩ := v1; exact ⟨a, ws, h1, h2, h3, h4.atom (p1 ds e)⟩
    | pin w d =>
      rw [e] at v1
      obtain ⟨h1, h2, _⟩ := v1
      have hw := p2 w d e
      rw [Nat.zero_add] at hw
      subst hw
      have old := F.vars i x hi ha
      cases e' : ρ.getD i .unb with
      | unb => exact h1
      | mt ds => exact h1
      | val d' => rw [e'] at old; obtain ⟨_, v, h4, h5⟩ := old; exact ⟨h1, v, by rw [h2, vs_at hi h4], h5.mono le⟩
      | pin v d' => rw [e'] at old; obtain ⟨_, h4, h5⟩ := old; exact ⟨h1, by rw [h2, vs_at hi h4], h5.mono le⟩
  · have hb := hB₁ a ha
    rcases loc a with q | ⟨t, q⟩
    · rw [B'n q] at hb; exact hb
    · obtain ⟨o, ho⟩ := (I.ok.trk a t (Sg.off_sub a t q)).isSome
      rw [B's q, ho] at hb; cases hb

theorem SSs_sink {sts : List Stmt} {ms : List S} {i : Nat} {x : Str} (hi : names[i]? = some x) (ha : accS sc x = true) (h2 : SSs X n sc names sts ms) : SSs X n sc names sts (.sink i :: ms) := by
  intro env A s B Φ₀ ρ σ Φ Q he eo hr I h
  obtain ⟨d, hd, K, e, hK, hder, h⟩ := MV.val_of h
  obtain ⟨m, cm, μ, F, hB⟩ := I.fr
  have okn : Ok X.g (σ.on K) Φ s.heap := I.ok.sub Sg.on_sub
  have nK : ∀ {b}, σ b = none → ¬ isL (σ.on K b) = true := fun {b} e => isL_n (Sg.on_n e)
  have hlt : i < ρ.length := by rw [F.len]; exact (List.getElem?_eq_some_iff.mp hi).1
  have I' : Inv X env names B Φ₀ (ρ.set i (.val e)) (σ.off K) (lendF Φ (σ.on K) s.heap) s.heap := by
    refine ⟨⟨fun b o e => ⟨(I.ok.base b o e).1, Sg.off_n (I.ok.base b o e).2⟩, fun b o e => ⟨lendF_in okn e, ?_⟩, fun a t e => (I.ok.trk a t (Sg.off_sub a t e)).mono lendF_le fun xx h => h⟩, I.mono0.trans lendF_le, fun b o e => ⟨(I.prot b o e).1, Sg.off_n (I.prot b o e).2⟩, fun b hb hf => ?_, m, cm, μ, { F with len := ?_, priv := fun a ha => ?_, vars := fun j y hj hacc => ?_ }, hB⟩
    · by_cases q : isL (σ.on K b) = true
      · by_cases k : K b = true
        · exact Sg.off_t k
        · rw [Sg.on_f k] at q; cases q
      · rw [lendF_f q] at e; exact Sg.off_n (I.ok.frz b o e).2
    · cases w : B b with
      | none => exact absurd w hb
      | some o =>
        rw [lendF_f (nK (I.prot b o w).2)] at hf
        exact I.priv b hb hf
    · rw [List.length_set]; exact F.len
    · have p := F.priv a ha; exact ⟨Sg.off_n p.1, lendF_none p.2.1 (Sg.on_n p.1), p.2.2⟩
    · by_cases q : j = i
      · subst q
        rw [getD_set_self hlt]
        have old := F.vars j y hj hacc
        rcases hd with hd | ⟨v, hd⟩ <;> rw [hd] at old
        · obtain ⟨h1, v, h2, h3⟩ := old; exact ⟨h1, v, h2, hder.rd okn h3⟩
        · obtain ⟨h1, h2, h3⟩ := old; exact ⟨h1, v, h2, hder.rd okn h3⟩
      · rw [getD_set_ne (Ne.symm q)]; exact (F.vars j y hj hacc).mono lendF_le fun xx xx xx e => e
  refine wpAny_mono (h2 env A s B Φ₀ _ _ _ _ he eo hr I' h) ?_ fun xx xx h => h.elim
  rintro f s₂ ⟨fl, ρ₂, σ₂, Φ₂, hs, I₂, le₂, fr, q⟩
  exact ⟨fl, ρ₂, σ₂, Φ₂, hs, I₂, lendF_le.trans le₂, fr, q⟩

theorem methN {x : Str} {p apos pos : Pos} {name : Str} {args : List Expr} (hl : (apos.endLine == pos.line) = true) (hs : args.all notStar = true) (hn : decide (args.length < 30) = true) : MethEq (.Name x p) name args apos pos := fun xx => ⟨_, meth_eq hl hs (of_decide_eq_true hn)⟩

theorem SE_clearT {b : Expr} {o : E} {apos pos : Pos} (ho : SE X n sc names b o) (hm : MethEq b "clear" [] apos pos) : SE X n sc names (.Call (.Attribute b "clear" apos) [] [] pos) (.clearT o) := by
  intro env A s Φ ρ σ Q he eo hroom ok F h
  obtain ⟨pl, heq⟩ := hm env
  refine MethodCall_ (wpAny_mono (ho env A s Φ ρ σ _ he eo hroom ok F h) ?_ fun xx xx h => h.elim) heq
  rintro w s₁ ⟨_, σ₁, Φ₁, st, r, a, ds, rfl, ha, hlen, q⟩
  cases r
  obtain ⟨vs, ⟨k, hpl⟩, ra⟩ := st.ok.trk a _ ha
  have hlv := ra.length
  simp only [Array.length_toList] at hlv
  refine getMethod_list_of PySem.F.slot_list_clear PySem.F.type_list_clear ⟨_, hpl, rfl, _, rfl⟩ ⟨_, hpl, rfl⟩ ?_
  refine callWith_method0 ?_
  refine call_meets PySem.F.slot_list_clear ⟨_, hpl, rfl⟩ PySem.F.entry_list_clear (PySem.F.args_list_clear_1 _) (AutoSeq1.list_clear_list_0 a vs k (by unfold sizeLine; (first | with_reducible exact oo9 ‹_› ‹_› | omega))) ⟨hpl, ?_⟩
  have hu := Heap.get?_update_self (Obj.mapSeq fun xx => #[]) hpl rfl
  have st₂ := Step.put1 (tk := s₁.toks) (t' := .list []) st.ok ha (Heap.SameBut.update ..) ⟨#[], ⟨_, hu⟩, .nil⟩
  exact ⟨_, _, Φ₁, st.trans st₂, .none, q⟩

theorem SE_popT {b : Expr} {o : E} {apos pos : Pos} (ho : SE X n sc names b o) (hm : MethEq b "pop" [] apos pos) : SE X n sc names (.Call (.Attribute b "pop" apos) [] [] pos) (.popT o) := by
  intro env A s Φ ρ σ Q he eo hroom ok F h
  obtain ⟨pl, heq⟩ := hm env
  refine MethodCall_ (wpAny_mono (ho env A s Φ ρ σ _ he eo hroom ok F h) ?_ fun xx xx h => h.elim) heq
  rintro w s₁ ⟨_, σ₁, Φ₁, st, r, a, ds, d, rfl, ha, hlen, q⟩
  cases r
  obtain ⟨vs, ⟨k, hpl⟩, ra⟩ := st.ok.trk a _ ha
  have hlv := ra.length
  simp only [Array.length_toList, List.length_append, List.length_singleton] at hlv
  obtain ⟨y, hy, ry⟩ := ra.get (k := ds.length) (d := d) (by simp)
  have hsz : vs.size - 1 = ds.length := by omega
  refine getMethod_list_of PySem.F.slot_list_pop PySem.F.type_list_pop ⟨_, hpl, rfl, _, rfl⟩ ⟨_, hpl, rfl⟩ ?_
  refine callWith_method0 ?_
  refine call_meets PySem.F.slot_list_pop ⟨_, hpl, rfl⟩ PySem.F.entry_list_pop (PySem.F.args_list_pop_1 _) (MeetsSeq.list_pop_last a vs k y (by rw [hsz]; simpa using hy) (by unfold sizeLine; omega)) ⟨hpl, ?_⟩
  have hu := Heap.get?_update_self (Obj.mapSeq fun xs => xs.eraseIdxIfInBounds (vs.size - 1)) hpl rfl
  have rr : RdAll Φ₁ (vs.eraseIdxIfInBounds (vs.size - 1)).toList ds := by
    have h1 := ra.eraseIdx ds.length
    rw [List.eraseIdx_append_of_length_le (Nat.le_refl _), Nat.sub_self] at h1
    simp only [List.eraseIdx_cons_zero, List.append_nil] at h1
    rw [hsz]
    simpa using h1
  have st₂ := Step.put1 (tk := s₁.toks) (t' := .list ds) st.ok ha (Heap.SameBut.update ..) ⟨_, ⟨_, hu⟩, rr⟩
  exact ⟨_, _, Φ₁, st.trans st₂, ry, q⟩

theorem SE_lenT {x : Expr} {e : E} {p pos : Pos} (G : Gnd X) (hx : SE X n sc names x e) (hk : sc.names.lookup ("len" : Str) = some .globalImplicit) (hs : notStar x = true) :
    SE X n sc names (.Call (.Name "len" p) [x] [] pos) (.lenT e) := by
  intro env A s Φ ρ σ Q he eo hroom ok F h
  refine call_blt1 (P := fun x σ => ∃ a ds, x = .ref a ∧ σ a = some (.list ds) ∧ ds.length ≤ 2 ^ 20 ∧ Q (.int ds.length) σ) G (f := "len") (fv := .builtin "len") (by simp [bNames]) hx hk hs he eo hroom ok F h ?_
  intro v s₁ d σ₁ Φ₁ st r q
  obtain ⟨a, ds, rfl, ha, hlen, q⟩ := q
  cases r
  obtain ⟨vs, ⟨k, hpl⟩, ra⟩ := st.ok.trk a _ ha
  have e := ra.length
  simp only [Array.length_toList] at e
  refine Calls.call_len_list ⟨_, hpl, rfl, _, rfl⟩ (by omega) ?_
  exact ⟨_, σ₁, Φ₁, st.trans (Step.tok st.ok _), .int _ _, by rw [e]; exact q⟩
end
section
variable {prog : Program} {w : World} {A : Around} {E : Value → Shared → Prop}
theorem draw_list {it l : Addr} {items : Array Value} (hne : l ≠ it) : ∀ (n i : Nat) (s : Shared) (Q : List Value → Shared → Prop), s.heap.IsListIter it l i → s.heap.IsList l items → i + n ≤ items.size →
    (∀ h', h'.IsListIter it l (i + n) → Heap.SameBut it s.heap h' → Q ((items.toList.drop i).take n) { s with heap := h' }) → wpAny (model prog w) A (draw (.ref it) n) Q E s
  | 0, i, s, Q, hit, _, _, hQ => by
    show wpAny _ _ (pure []) Q E s
    exact wpAny_pure (by simpa using hQ s.heap hit (Heap.SameBut.refl ..))
  | n + 1, i, s, Q, hit, ht, hle, hQ => by
    have hlt : i < items.size := by omega
    show wpAny _ _ (pyNext (.ref it) >>= _) Q E s
    refine wpAny_bind (wpAny_pyNext_list_item hit ht (x := items[i]) (by simp [hlt]) fun h₁ hit₁ hs₁ => ?_)
    refine wpAny_bind (wpAny_holding (draw_list hne n (i + 1) _ _ hit₁ (ht.extBut hs₁.extBut hne) (by omega) fun h₂ hit₂ hs₂ => wpAny_pure ?_))
    have hd : items.toList.drop i = items[i] :: items.toList.drop (i + 1) := by simp [List.drop_eq_getElem_cons, hlt]
    have := hQ h₂ (by rw [show i + (n + 1) = i + 1 + n by omega]; exact hit₂) (hs₁.trans hs₂)
    rw [hd, List.take_succ_cons] at this
    exact this
theorem unpack_list {s : Shared} {t : Addr} {items : Array Value} {Q : List Value → Shared → Prop} (hh : A.handled = none) (ht : s.heap.IsList t items)
    (hQ : ∀ h', Heap.ExtBut s.heap.objs.size s.heap h' → Q items.toList { s with heap := h' }) : wpAny (model prog w) A (unpackItems (.ref t) items.size none) Q E s := by
  have hlt : t ≠ s.heap.objs.size := by obtain ⟨o, ho, _⟩ := ht; exact Nat.ne_of_lt (Heap.lt_size ho)
  unfold unpackItems
  refine wpAny_bind ?_
  · unfold notIterableAtAll
    refine wpAny_bind (wpAny_specialOf ht.typeIs slot_list_iter.lookup ?_)
    refine wpAny_pure ?_
    simp only [Bool.false_eq_true, if_false]
    refine wpAny_bind (wpAny_holding (wpAny_pyIter_list ht ?_))
    refine wpAny_bind (wpAny_holding (draw_list hlt items.size 0 _ _ ⟨_, Heap.get?_push_size _ rfl, rfl, rfl⟩ (ht.push _) (by omega) fun h₁ hit₁ hs₁ => ?_))
    have hall : List.take items.size (List.drop 0 items.toList) = items.toList := by
      rw [List.drop_zero]; exact List.take_of_length_le (by simp)
    rw [hall]
    rw [if_neg (by simp)]
    have ht₁ : h₁.IsList t items := (ht.push _).extBut hs₁.extBut hlt
    refine wpAny_bind (wpAny_holding (wpAny_pyNext_list_end hh hit₁ ht₁ (by simp) fun h₂ he₂ => ?_))
    simp only [Option.isSome_none, Bool.false_eq_true, if_false]
    refine wpAny_pure (hQ h₂ fun b o hb e => he₂ b o hb (hs₁.extBut b o hb (Heap.get?_push_of_some _ e)))
theorem assign_list {s : Shared} {env : Env} {elts : List Expr} {x1} {pos : Pos} {t : Addr} {items : Array Value} {Q : Unit → Shared → Prop} (hh : A.handled = none) (ht : s.heap.IsList t items)
    (hn : (assignEach elts env).length = items.size) (hstar : (assignEach elts env).findIdx? (·.1) = none)
    (h : ∀ h', Heap.ExtBut s.heap.objs.size s.heap h' → wpAny (model prog w) A (assignInOrder ((assignEach elts env).map (·.2)) items.toList) Q E { s with heap := h' }) :
    wpAny (model prog w) A (assign (.Tuple elts x1 pos) env (.ref t)) Q E s := by
  rw [arm_assign_Tuple]
  refine wpAny_bind (wpAny_standAt ?_)
  unfold unpack
  rw [hn, hstar]
  exact wpAny_bind (wpAny_holding (unpack_list hh ht h))
end
section
variable {X : Cx} {n : Nat} {sc : Scope} {names : List Str}
theorem SS_unpL {elts : List Expr} {is : List Nat} {v : Expr} {e : E} {k : Nat} {p pos : Pos} (ht : Tgts names sc elts is) (hv : SE X n sc names v e) (hc : notComp v = true) (hu : notTup v = true) :
    SS X n sc names (.Assign [.Tuple elts k p] v pos) (.unpL is e) := by
  intro env A s B Φ₀ ρ σ Φ Q he eo hr I h
  refine Assign_Tuple (wpAny_mono (hv env A s Φ ρ σ _ he eo hr I.ok I.frame h) ?_ fun xx xx h => h.elim) (by cases v <;> first | rfl | cases hc) (by cases v <;> first | rfl | cases hu)
  rintro v s₁ ⟨_, σ₁, Φ₁, st, r, q⟩
  obtain ⟨ds, rfl, q⟩ := D.lst_of q
  cases r with
  | lst ho hcl hd _ ra =>
    have al := assignEach_len (env := env) ht
    have rl := ra.length
    refine assign_list hr.1 ⟨_, (st.ok.frz _ _ ho).1, hcl, _, hd⟩ (by rw [al.1, ← q.1, ← rl]; simp) al.2 fun h' hx => ?_
    have st' : Step X.g s₁ { s₁ with heap := h' } Φ₁ Φ₁ σ₁ σ₁ := Step.keeps (tk := s₁.toks) st.ok fun b o e => hx b o (Nat.ne_of_lt (Heap.lt_size e)) e
    refine assign_all eo he ht q.1 ra ((I.step st).step st') fun s' hs I' => ?_
    obtain ⟨h₂, tk₂, rfl⟩ := st.same
    obtain ⟨h₃, tk₃, rfl⟩ := hs
    exact ⟨.next, _, σ₁, Φ₁, ⟨h₃, tk₃, rfl⟩, I', st.mono, trivial, q.2⟩
end
namespace L06
noncomputable abbrev P : Program := PySem.Challenge.pw_uf060016_06

noncomputable def n_is_whole : List Str := ["thing", "least", "most"]
noncomputable abbrev m_is_whole : List S := M.is_whole
noncomputable def c_is_whole : Scope := fnScope (stmtAt P 10)
theorem sq_is_whole : (recOf P "is_whole").scope = c_is_whole := by kernel_rfl
theorem bq_is_whole : (recOf P "is_whole").body = fnBody (stmtAt P 10) := by kernel_rfl

noncomputable def n_is_row : List Str := ["thing", "candidates", "place", "wish"]
noncomputable abbrev m_is_row : List S := M.is_row
noncomputable def c_is_row : Scope := fnScope (stmtAt P 11)
theorem sq_is_row : (recOf P "is_row").scope = c_is_row := by kernel_rfl
theorem bq_is_row : (recOf P "is_row").body = fnBody (stmtAt P 11) := by kernel_rfl

noncomputable def n_is_ballot : List Str := ["thing", "candidates"]
noncomputable abbrev m_is_ballot : List S := M.is_ballot
noncomputable def c_is_ballot : Scope := fnScope (stmtAt P 12)
theorem sq_is_ballot : (recOf P "is_ballot").scope = c_is_ballot := by kernel_rfl
theorem bq_is_ballot : (recOf P "is_ballot").body = fnBody (stmtAt P 12) := by kernel_rfl

noncomputable def n_need_vote : List Str := ["candidates", "ballots", "seats", "ballot"]
noncomputable abbrev m_need_vote : List S := M.need_vote
noncomputable def c_need_vote : Scope := fnScope (stmtAt P 13)
theorem sq_need_vote : (recOf P "need_vote").scope = c_need_vote := by kernel_rfl
theorem bq_need_vote : (recOf P "need_vote").body = fnBody (stmtAt P 13) := by kernel_rfl

noncomputable def n_most_held : List Str := ["holdings", "standing", "best", "candidate"]
noncomputable abbrev m_most_held : List S := M.most
noncomputable def c_most_held : Scope := fnScope (stmtAt P 15)
theorem sq_most_held : (recOf P "most_held").scope = c_most_held := by kernel_rfl
theorem bq_most_held : (recOf P "most_held").body = fnBody (stmtAt P 15) := by kernel_rfl

noncomputable def n_least_held : List Str := ["holdings", "standing", "worst", "candidate"]
noncomputable abbrev m_least_held : List S := M.least
noncomputable def c_least_held : Scope := fnScope (stmtAt P 16)
theorem sq_least_held : (recOf P "least_held").scope = c_least_held := by kernel_rfl
theorem bq_least_held : (recOf P "least_held").body = fnBody (stmtAt P 16) := by kernel_rfl

noncomputable def n_deed_of : List Str := ["holdings", "standing", "seats", "many", "best"]
noncomputable abbrev m_deed_of : List S := M.deed
noncomputable def c_deed_of : Scope := fnScope (stmtAt P 17)
theorem sq_deed_of : (recOf P "deed_of").scope = c_deed_of := by kernel_rfl
theorem bq_deed_of : (recOf P "deed_of").body = fnBody (stmtAt P 17) := by kernel_rfl

noncomputable def n_place_of : List Str := ["row", "standing", "wish"]
noncomputable abbrev m_place_of : List S := M.place
noncomputable def c_place_of : Scope := fnScope (stmtAt P 19)
theorem sq_place_of : (recOf P "place_of").scope = c_place_of := by kernel_rfl
theorem bq_place_of : (recOf P "place_of").body = fnBody (stmtAt P 19) := by kernel_rfl

noncomputable def n_held : List Str := ["candidates", "places", "left", "found", "place", "weight"]
noncomputable abbrev m_held : List S := M.held
noncomputable def c_held : Scope := fnScope (stmtAt P 20)
theorem sq_held : (recOf P "held").scope = c_held := by kernel_rfl
theorem bq_held : (recOf P "held").body = fnBody (stmtAt P 20) := by kernel_rfl

noncomputable def n_all_weights : List Str := ["ballots", "ballot"]
noncomputable abbrev m_all_weights : List S := M.allw
noncomputable def c_all_weights : Scope := fnScope (stmtAt P 22)
theorem sq_all_weights : (recOf P "all_weights").scope = c_all_weights := by kernel_rfl
theorem bq_all_weights : (recOf P "all_weights").body = fnBody (stmtAt P 22) := by kernel_rfl

noncomputable def n_quota : List Str := ["ballots", "seats"]
noncomputable abbrev m_quota : List S := M.quota
noncomputable def c_quota : Scope := fnScope (stmtAt P 23)
theorem sq_quota : (recOf P "quota").scope = c_quota := by kernel_rfl
theorem bq_quota : (recOf P "quota").body = fnBody (stmtAt P 23) := by kernel_rfl

noncomputable def n_parts : List Str := ["weights", "some", "total", "found", "ahead", "given", "weight", "part"]
noncomputable abbrev m_parts : List S := M.parts
noncomputable def c_parts : Scope := fnScope (stmtAt P 24)
theorem sq_parts : (recOf P "parts").scope = c_parts := by kernel_rfl
theorem bq_parts : (recOf P "parts").body = fnBody (stmtAt P 24) := by kernel_rfl

noncomputable def n_Count_init : List Str := ["self", "candidates", "ballots", "seats", "ballot"]
noncomputable def e_Count_init_1 : E :=
  (.bi .tuple1 [(.idx (.var 4) (.cst (.int 1)))])
noncomputable def e_Count_init_2 : E :=
  (.idx (.var 4) (.cst (.int 0)))
noncomputable def m_Count_init : List S :=
  [.lendA [2] (.expr (.call "need_vote" [(.var 1), (.var 2), (.var 3)])),
    .setA (.var 0) "many" (.var 1),
    .setA (.var 0) "chairs" (.var 3),
    .setA (.var 0) "enough" (.lendE [2] (.call "quota" [(.var 2), (.var 3)])),
    .setA (.var 0) "rows" (.lst (.lendL [2] (.comp e_Count_init_1 [4] (.seq (.var 2)) none))),
    .setA (.var 0) "states" (.track (.disp [(.tupE [(.lst (.ofSeq (.range (.var 1)))), (.lst (.lendL [2] (.comp e_Count_init_2 [4] (.seq (.var 2)) none))), (.lst (.disp []))])]))]
noncomputable def c_Count_init : Scope := fnScope (methAt P 26 0)

noncomputable def n_Count_step : List Str := ["self", "places", "holdings", "deed", "later", "lying", "some", "given", "rest", "bearers", "standing", "left", "filled", "word", "candidate", "number", "part", "one"]
noncomputable abbrev m_Count_step : List S := M.Count_step
noncomputable def c_Count_step : Scope := fnScope (methAt P 26 1)

noncomputable def n_Count_back : List Str := ["self"]
noncomputable def m_Count_back : List S :=
  [.iff (.cmp .eq (.lenT (.attr (.var 0) "states")) (.cst (.int 1)))
      [.ret (.cst (.bool false))]
      [],
    .expr (.popT (.attr (.var 0) "states")),
    .ret (.cst (.bool true))]
noncomputable def c_Count_back : Scope := fnScope (methAt P 26 2)

noncomputable def n_Count_standing : List Str := ["self"]
noncomputable def m_Count_standing : List S :=
  [.ret (.lst (.ofSeq (.seq (.idx (.last (.attr (.var 0) "states")) (.cst (.int 0))))))]
noncomputable def c_Count_standing : Scope := fnScope (methAt P 26 3)
noncomputable def m_Count_standingT : List S :=
  [.ret (.track (.ofSeq (.seq (.idx (.last (.attr (.var 0) "states")) (.cst (.int 0))))))]

noncomputable def n_Count_places : List Str := ["self", "standing", "row"]
noncomputable abbrev m_Count_places : List S := M.Count_places
noncomputable def c_Count_places : Scope := fnScope (methAt P 26 4)
noncomputable abbrev m_Count_placesT : List S := M.Count_placesT

noncomputable def n_Count_left : List Str := ["self"]
noncomputable abbrev m_Count_left : List S := M.Count_left
noncomputable def c_Count_left : Scope := fnScope (methAt P 26 5)
noncomputable abbrev m_Count_leftT : List S := M.Count_leftT

noncomputable def n_Count_seats : List Str := ["self", "candidate", "bearers"]
noncomputable abbrev m_Count_seats : List S := M.Count_seats
noncomputable def c_Count_seats : Scope := fnScope (methAt P 26 6)
noncomputable def e_Count_seatsT_1 : E :=
  (.tupE [(.var 1), (.track (.ofSeq (.seq (.var 2))))])
noncomputable def m_Count_seatsT : List S :=
  [.ret (.track (.comp e_Count_seatsT_1 [1, 2] (.seq (.idx (.last (.attr (.var 0) "states")) (.cst (.int 2)))) none))]

noncomputable def n_law_cell : List Str := ["_law_script", "_law_k", "_law_number"]
noncomputable abbrev m_law_cell : List S := M.cell
noncomputable def c_law_cell : Scope := fnScope (stmtAt P 28)
theorem sq_law_cell : (recOf P "_law_cell").scope = c_law_cell := by kernel_rfl
theorem bq_law_cell : (recOf P "_law_cell").body = fnBody (stmtAt P 28) := by kernel_rfl

noncomputable def n_law_whole : List Str := ["_law_found"]
noncomputable abbrev m_law_whole : List S := M.whole
noncomputable def c_law_whole : Scope := fnScope (stmtAt P 29)
theorem sq_law_whole : (recOf P "_law_whole").scope = c_law_whole := by kernel_rfl
theorem bq_law_whole : (recOf P "_law_whole").body = fnBody (stmtAt P 29) := by kernel_rfl

noncomputable def n_law_row : List Str := ["_law_cell_here", "_law_candidates_here", "_law_left", "_law_state", "_law_row_here", "_law_k"]
noncomputable abbrev m_law_row : List S := M.row
noncomputable def c_law_row : Scope := fnScope (stmtAt P 30)
theorem sq_law_row : (recOf P "_law_row").scope = c_law_row := by kernel_rfl
theorem bq_law_row : (recOf P "_law_row").body = fnBody (stmtAt P 30) := by kernel_rfl

noncomputable def n_law_weight : List Str := ["_law_cell_here", "_law_kind"]
noncomputable abbrev m_law_weight : List S := M.weight
noncomputable def c_law_weight : Scope := fnScope (stmtAt P 31)
theorem sq_law_weight : (recOf P "_law_weight").scope = c_law_weight := by kernel_rfl
theorem bq_law_weight : (recOf P "_law_weight").body = fnBody (stmtAt P 31) := by kernel_rfl

noncomputable def n_law_candidates : List Str := ["_law_script"]
noncomputable abbrev m_law_candidates : List S := M.candidates
noncomputable def c_law_candidates : Scope := fnScope (stmtAt P 32)
theorem sq_law_candidates : (recOf P "_law_candidates").scope = c_law_candidates := by kernel_rfl
theorem bq_law_candidates : (recOf P "_law_candidates").body = fnBody (stmtAt P 32) := by kernel_rfl

noncomputable def n_law_ballots : List Str := ["_law_script", "_law_candidates_here", "_law_many", "_law_kind", "_law_ballots_here", "_law_k", "_law_weight_here", "_law_row_here", "_law_one"]
noncomputable abbrev m_law_ballots : List S := M.ballots
noncomputable def c_law_ballots : Scope := fnScope (stmtAt P 33)
theorem sq_law_ballots : (recOf P "_law_ballots").scope = c_law_ballots := by kernel_rfl
theorem bq_law_ballots : (recOf P "_law_ballots").body = fnBody (stmtAt P 33) := by kernel_rfl

noncomputable def n_law_copy : List Str := ["_law_ballots_here", "_law_weight_here", "_law_row_here"]
noncomputable def e_law_copy_1 : E :=
  (.tupE [(.var 1), (.track (.ofSeq (.seq (.var 2))))])
noncomputable def m_law_copy : List S :=
  [.ret (.track (.comp e_law_copy_1 [1, 2] (.seq (.var 0)) none))]
noncomputable def c_law_copy : Scope := fnScope (stmtAt P 34)
theorem sq_law_copy : (recOf P "_law_copy").scope = c_law_copy := by kernel_rfl
theorem bq_law_copy : (recOf P "_law_copy").body = fnBody (stmtAt P 34) := by kernel_rfl

noncomputable def n_law_place : List Str := ["_law_row_here", "_law_standing", "_law_found", "_law_one"]
noncomputable def p_law_place_1 : E :=
  (.cmp .in_ (.var 3) (.var 1))
noncomputable def e_law_place_1 : E :=
  (.var 3)
noncomputable def m_law_place : List S :=
  [.asg 2 (.lst (.comp e_law_place_1 [3] (.seq (.var 0)) (some p_law_place_1))),
    .iff (.cmp .eq (.var 2) (.lst (.disp [])))
      [.ret (.cst .none)]
      [],
    .ret (.idx (.var 2) (.cst (.int 0)))]
noncomputable def c_law_place : Scope := fnScope (stmtAt P 35)
theorem sq_law_place : (recOf P "_law_place").scope = c_law_place := by kernel_rfl
theorem bq_law_place : (recOf P "_law_place").body = fnBody (stmtAt P 35) := by kernel_rfl

noncomputable def n_law_gather : List Str := ["_law_candidate", "_law_places", "_law_left", "_law_total", "_law_k"]
noncomputable def b_law_gather_1 : List S :=
  [.iff (.cmp .eq (.idx (.var 1) (.var 4)) (.var 0))
      [.asg 3 (.bin .add (.var 3) (.idx (.var 2) (.var 4)))]
      []]
noncomputable def m_law_gather : List S :=
  [.asg 3 (.cst (.int 0)),
    .for_ [4] (.range (.bi .len [(.var 1)])) b_law_gather_1,
    .ret (.var 3)]
noncomputable def c_law_gather : Scope := fnScope (stmtAt P 36)
theorem sq_law_gather : (recOf P "_law_gather").scope = c_law_gather := by kernel_rfl
theorem bq_law_gather : (recOf P "_law_gather").body = fnBody (stmtAt P 36) := by kernel_rfl

noncomputable def n_law_parts : List Str := ["_law_weights", "_law_some", "_law_total", "_law_weight_here", "_law_found", "_law_k", "_law_behind", "_law_ahead"]
noncomputable def b_law_parts_1 : List S :=
  [.asg 2 (.bin .add (.var 2) (.var 3))]
noncomputable def b_law_parts_2 : List S :=
  [.asg 6 (.cst (.int 0)),
    .asg 7 (.cst (.int 0)),
    .iff (.cmp .gt (.var 2) (.cst (.int 0)))
      [.asg 6 (.bin .fdiv (.bin .mul (.bi .sum [(.lst (.upto (.var 0) (.bin .add (.var 5) (.cst (.int 1)))))]) (.var 1)) (.var 2)),
      .asg 7 (.bin .fdiv (.bin .mul (.bi .sum [(.lst (.upto (.var 0) (.var 5)))]) (.var 1)) (.var 2))]
      [],
    .app 4 (.bin .sub (.var 6) (.var 7))]
noncomputable def m_law_parts : List S :=
  [.asg 2 (.cst (.int 0)),
    .for_ [3] (.seq (.var 0)) b_law_parts_1,
    .asgM 4 (.disp []),
    .for_ [5] (.range (.bi .len [(.var 0)])) b_law_parts_2,
    .freeze 4,
    .ret (.var 4)]
noncomputable def c_law_parts : Scope := fnScope (stmtAt P 37)
theorem sq_law_parts : (recOf P "_law_parts").scope = c_law_parts := by kernel_rfl
theorem bq_law_parts : (recOf P "_law_parts").body = fnBody (stmtAt P 37) := by kernel_rfl

noncomputable def n_law_first : List Str := ["_law_holdings", "_law_standing", "_law_best", "_law_one"]
noncomputable def e_law_first_1 : E :=
  (.dictAt (.var 0) (.var 3))
noncomputable def p_law_first_1 : E :=
  (.cmp .eq (.dictAt (.var 0) (.var 3)) (.var 2))
noncomputable def e_law_first_2 : E :=
  (.var 3)
noncomputable def m_law_first : List S :=
  [.asg 2 (.bi .max1 [(.lst (.comp e_law_first_1 [3] (.seq (.var 1)) none))]),
    .ret (.bi .min1 [(.lst (.comp e_law_first_2 [3] (.seq (.var 1)) (some p_law_first_1)))])]
noncomputable def c_law_first : Scope := fnScope (stmtAt P 38)
theorem sq_law_first : (recOf P "_law_first").scope = c_law_first := by kernel_rfl
theorem bq_law_first : (recOf P "_law_first").body = fnBody (stmtAt P 38) := by kernel_rfl

noncomputable def n_law_last : List Str := ["_law_holdings", "_law_standing", "_law_least", "_law_one"]
noncomputable def e_law_last_1 : E :=
  (.dictAt (.var 0) (.var 3))
noncomputable def p_law_last_1 : E :=
  (.cmp .eq (.dictAt (.var 0) (.var 3)) (.var 2))
noncomputable def e_law_last_2 : E :=
  (.var 3)
noncomputable def m_law_last : List S :=
  [.asg 2 (.bi .min1 [(.lst (.comp e_law_last_1 [3] (.seq (.var 1)) none))]),
    .ret (.bi .max1 [(.lst (.comp e_law_last_2 [3] (.seq (.var 1)) (some p_law_last_1)))])]
noncomputable def c_law_last : Scope := fnScope (stmtAt P 39)
theorem sq_law_last : (recOf P "_law_last").scope = c_law_last := by kernel_rfl
theorem bq_law_last : (recOf P "_law_last").body = fnBody (stmtAt P 39) := by kernel_rfl

noncomputable def n_law_after : List Str := ["_law_ballots_here", "_law_seats", "_law_enough", "_law_state", "_law_places", "_law_holdings", "_law_one", "_law_best", "_law_lying", "_law_given", "_law_more", "_law_bearers", "_law_k", "_law_standing", "_law_left", "_law_filled", "_law_gone", "_law_weight_here", "_law_row_here"]
noncomputable def e_law_after_1 : E :=
  (.call "_law_place" [(.var 18), (.var 13)])
noncomputable def b_law_after_1 : List S :=
  [.setD (.var 5) (.var 6) (.call "_law_gather" [(.var 6), (.var 4), (.var 14)])]
noncomputable def p_law_after_1 : E :=
  (.cmp .ne (.var 6) (.var 16))
noncomputable def e_law_after_2 : E :=
  (.var 6)
noncomputable def p_law_after_2 : E :=
  (.cmp .eq (.idx (.var 4) (.var 12)) (.var 7))
noncomputable def e_law_after_3 : E :=
  (.var 12)
noncomputable def e_law_after_4 : E :=
  (.idx (.var 14) (.var 12))
noncomputable def b_law_after_2 : List S :=
  [.setI 10 (.idx (.var 8) (.var 12)) (.bin .sub (.idxM 10 (.idx (.var 8) (.var 12))) (.idx (.var 9) (.var 12))),
    .iff (.cmp .gt (.idx (.var 9) (.var 12)) (.cst (.int 0)))
      [.app 11 (.tupE [(.idx (.var 8) (.var 12)), (.idx (.var 9) (.var 12))])]
      []]
noncomputable def p_law_after_3 : E :=
  (.cmp .ne (.var 6) (.var 7))
noncomputable def e_law_after_5 : E :=
  (.var 6)
noncomputable def m_law_after : List S :=
  [.unpL [13, 14, 15] (.var 3),
    .iff (.cmp .eq (.bi .len [(.var 15)]) (.var 1))
      [.ret (.cst .none)]
      [],
    .asg 4 (.lst (.comp e_law_after_1 [17, 18] (.seq (.var 0)) none)),
    .asg 5 .dict0,
    .for_ [6] (.seq (.var 13)) b_law_after_1,
    .asg 7 (.call "_law_first" [(.var 5), (.var 13)]),
    .iff (.and_ (.cmp .gt (.bi .len [(.var 13)]) (.bin .sub (.var 1) (.bi .len [(.var 15)]))) (.cmp .lt (.dictAt (.var 5) (.var 7)) (.var 2)))
      [.asg 16 (.call "_law_last" [(.var 5), (.var 13)]),
      .ret (.lst (.disp [(.tupE [(.cst (.str "out")), (.var 16)]), (.lst (.disp [(.lst (.comp e_law_after_2 [6] (.seq (.var 13)) (some p_law_after_1))), (.var 14), (.var 15)]))]))]
      [],
    .asg 8 (.lst (.comp e_law_after_3 [12] (.range (.bi .len [(.var 0)])) (some p_law_after_2))),
    .asg 9 (.call "_law_parts" [(.lst (.comp e_law_after_4 [12] (.seq (.var 8)) none)), (.bi .min2 [(.var 2), (.dictAt (.var 5) (.var 7))])]),
    .asgM 10 (.ofSeq (.seq (.var 14))),
    .asgM 11 (.disp []),
    .for_ [12] (.range (.bi .len [(.var 8)])) b_law_after_2,
    .freeze 10,
    .freeze 11,
    .ret (.lst (.disp [(.tupE [(.cst (.str "seated")), (.var 7)]), (.lst (.disp [(.lst (.comp e_law_after_5 [6] (.seq (.var 13)) (some p_law_after_3))), (.var 10), (.lst (.cat (.var 15) (.lst (.disp [(.tupE [(.var 7), (.var 11)])]))))]))]))]
noncomputable def c_law_after : Scope := fnScope (stmtAt P 40)
theorem sq_law_after : (recOf P "_law_after").scope = c_law_after := by kernel_rfl
theorem bq_law_after : (recOf P "_law_after").body = fnBody (stmtAt P 40) := by kernel_rfl

noncomputable def n_law_asked : List Str := ["_law_count", "_law_which"]
noncomputable def m_law_asked : List S :=
  [.iff (.cmp .eq (.var 1) (.cst (.int 0)))
      [.ret (.meth (.var 0) "standing")]
      [],
    .iff (.cmp .eq (.var 1) (.cst (.int 1)))
      [.ret (.meth (.var 0) "places")]
      [],
    .iff (.cmp .eq (.var 1) (.cst (.int 2)))
      [.ret (.meth (.var 0) "left")]
      [],
    .ret (.meth (.var 0) "seats")]
noncomputable def c_law_asked : Scope := fnScope (stmtAt P 41)
theorem sq_law_asked : (recOf P "_law_asked").scope = c_law_asked := by kernel_rfl
theorem bq_law_asked : (recOf P "_law_asked").body = fnBody (stmtAt P 41) := by kernel_rfl

noncomputable def n_law_stands : List Str := ["_law_count", "_law_ballots_here", "_law_state", "_law_cell_here", "_law_kept", "_law_due", "_law_k", "_law_which", "_law_told", "_law_weight_here", "_law_row_here", "_law_candidate", "_law_bearers"]
noncomputable def e_law_stands_1 : E :=
  (.call "_law_place" [(.var 10), (.idx (.var 2) (.cst (.int 0)))])
noncomputable def b_law_stands_1 : List S :=
  [.expr (.appT (.var 12) (.tupE [(.cst (.int 0)), (.cst (.int 0))]))]
noncomputable def b_law_stands_2 : List S :=
  [.asg 7 (.bin .mod (.bin .add (.bin .mul (.var 6) (.idx (.lst (.disp [(.cst (.int 1)), (.cst (.int 3))])) (.bin .mod (.bin .fdiv (.var 3) (.cst (.int 7))) (.cst (.int 2))))) (.bin .fdiv (.var 3) (.cst (.int 14)))) (.cst (.int 4))),
    .asg 8 (.call "_law_asked" [(.var 0), (.var 7)]),
    .lendA [8] (.iff (.or_ (.not_ (.bi .islist [(.var 8)])) (.cmp .ne (.var 8) (.idx (.var 5) (.var 7))))
      [.ret (.cst (.bool false))]
      []),
    .iff (.cmp .eq (.bin .mod (.bin .fdiv (.var 3) (.cst (.int 56))) (.cst (.int 2))) (.cst (.int 0)))
      [.sink 8,
      .expr (.appT (.var 4) (.tupE [(.var 8), (.lst (.ofSeq (.seq (.idx (.var 5) (.var 7)))))]))]
      [.iff (.cmp .eq (.var 7) (.cst (.int 3)))
        [.lendA [8] (.for_ [11, 12] (.seq (.var 8)) b_law_stands_1)]
        [],
      .expr (.appT (.var 8) (.cst .none))]]
noncomputable def m_law_stands : List S :=
  [.asg 5 (.lst (.disp [(.idx (.var 2) (.cst (.int 0))), (.lst (.comp e_law_stands_1 [9, 10] (.seq (.var 1)) none)), (.idx (.var 2) (.cst (.int 1))), (.idx (.var 2) (.cst (.int 2)))])),
    .for_ [6] (.range (.cst (.int 4))) b_law_stands_2,
    .ret (.cst (.bool true))]
noncomputable def c_law_stands : Scope := fnScope (stmtAt P 42)
theorem sq_law_stands : (recOf P "_law_stands").scope = c_law_stands := by kernel_rfl
theorem bq_law_stands : (recOf P "_law_stands").body = fnBody (stmtAt P 42) := by kernel_rfl

noncomputable def n_law_done : List Str := ["_law_count", "_law_ballots_here", "_law_seats", "_law_enough", "_law_state", "_law_due", "_law_found"]
noncomputable def m_law_done : List S :=
  [.asg 5 (.call "_law_after" [(.var 1), (.var 2), (.var 3), (.var 4)]),
    .asg 6 (.meth (.var 0) "step"),
    .iff (.cmp .is_ (.var 5) (.cst .none))
      [.ret (.lst (.disp [(.cmp .is_ (.var 6) (.cst .none)), (.var 4)]))]
      [],
    .ret (.lst (.disp [(.and_ (.bi .istuple [(.var 6)]) (.and_ (.cmp .eq (.var 6) (.idx (.var 5) (.cst (.int 0)))) (.call "_law_whole" [(.idx (.var 6) (.cst (.int 1)))]))), (.idx (.var 5) (.cst (.int 1)))]))]
noncomputable def c_law_done : Scope := fnScope (stmtAt P 43)
theorem sq_law_done : (recOf P "_law_done").scope = c_law_done := by kernel_rfl
theorem bq_law_done : (recOf P "_law_done").body = fnBody (stmtAt P 43) := by kernel_rfl

noncomputable def n_law_beside : List Str := ["_law_beside_here"]
noncomputable def m_law_beside : List S :=
  [.iff (.or_ (.cmp .ne (.meth (.var 0) "left") (.lst (.disp [(.cst (.int 3)), (.cst (.int 1))]))) (.or_ (.cmp .ne (.meth (.var 0) "places") (.lst (.disp [(.cst (.int 1)), (.cst (.int 0))]))) (.cmp .ne (.meth (.var 0) "step") (.tupE [(.cst (.str "seated")), (.cst (.int 1))]))))
      [.ret (.cst (.bool false))]
      [],
    .ret (.and_ (.cmp .eq (.meth (.var 0) "seats") (.lst (.disp [(.tupE [(.cst (.int 1)), (.lst (.disp [(.tupE [(.cst (.int 0)), (.cst (.int 3))])]))])]))) (.and_ (.cmp .is_ (.meth (.var 0) "step") (.cst .none)) (.cmp .eq (.meth (.var 0) "standing") (.lst (.disp [(.cst (.int 0))])))))]
noncomputable def c_law_beside : Scope := fnScope (stmtAt P 44)
theorem sq_law_beside : (recOf P "_law_beside").scope = c_law_beside := by kernel_rfl
theorem bq_law_beside : (recOf P "_law_beside").body = fnBody (stmtAt P 44) := by kernel_rfl

noncomputable def n_law_back : List Str := ["_law_count", "_law_past", "_law_answer"]
noncomputable def m_law_back : List S :=
  [.asg 2 (.meth (.var 0) "back"),
    .ret (.and_ (.bi .isbool [(.var 2)]) (.cmp .eq (.var 2) (.lendE [1] (.cmp .ne (.var 1) (.lst (.disp []))))))]
noncomputable def c_law_back : Scope := fnScope (stmtAt P 45)
theorem sq_law_back : (recOf P "_law_back").scope = c_law_back := by kernel_rfl
theorem bq_law_back : (recOf P "_law_back").body = fnBody (stmtAt P 45) := by kernel_rfl

noncomputable def n_law : List Str := ["_law_script", "_law_candidates_here", "_law_ballots_here", "_law_seats", "_law_enough", "_law_handed", "_law_count", "_law_beside_here", "_law_twin", "_law_state", "_law_second", "_law_past", "_law_kept", "_law_cell_here", "_law_weight_here", "_law_row_here", "_law_first_here", "_law_told", "_law_copy_here"]
noncomputable def e_law_1 : E :=
  (.var 14)
noncomputable def b_law_1 : List S :=
  [.expr (.clearT (.var 15))]
noncomputable def e_law_2 : E :=
  (.var 14)
noncomputable def b_law_2 : List S :=
  [.asgM 16 (.disp [(.cst (.bool true)), (.var 9)]),
    .iff (.cmp .eq (.bin .mod (.var 13) (.cst (.int 3))) (.cst (.int 0)))
      [.setI 16 (.cst (.int 0)) (.call "_law_back" [(.var 6), (.var 11)]),
      .iff (.lendE [11] (.cmp .ne (.var 11) (.lst (.disp []))))
        [.setI 16 (.cst (.int 1)) (.popT (.var 11))]
        [],
      .freeze 16]
      [.asg 16 (.call "_law_done" [(.var 6), (.var 2), (.var 3), (.var 4), (.var 9)]),
      .iff (.cmp .ne (.idx (.var 16) (.cst (.int 1))) (.var 9))
        [.expr (.appT (.var 11) (.var 9))]
        []],
    .asg 9 (.idx (.var 16) (.cst (.int 1))),
    .iff (.cmp .eq (.bin .mod (.bin .fdiv (.var 13) (.cst (.int 3))) (.cst (.int 4))) (.cst (.int 3)))
      [.asg 10 (.call "_law_done" [(.var 8), (.var 2), (.var 3), (.var 4), (.idx (.var 10) (.cst (.int 1)))])]
      [],
    .iff (.or_ (.not_ (.idx (.var 16) (.cst (.int 0)))) (.or_ (.not_ (.idx (.var 10) (.cst (.int 0)))) (.not_ (.call "_law_stands" [(.var 6), (.var 2), (.var 9), (.var 13), (.var 12)]))))
      [.ret (.cst (.bool false))]
      []]
noncomputable def p_law_1 : E :=
  (.cmp .ne (.var 17) (.var 18))
noncomputable def e_law_3 : E :=
  (.cst (.int 1))
noncomputable def m_law : List S :=
  [.asg 1 (.call "_law_candidates" [(.var 0)]),
    .asg 2 (.call "_law_ballots" [(.var 0), (.var 1)]),
    .asg 3 (.bin .add (.cst (.int 1)) (.bin .mod (.call "_law_cell" [(.var 0), (.cst (.int 4))]) (.var 1))),
    .asg 4 (.bin .add (.bin .fdiv (.bi .sum [(.lst (.comp e_law_1 [14, 15] (.seq (.var 2)) none))]) (.bin .add (.var 3) (.cst (.int 1)))) (.cst (.int 1))),
    .asg 5 (.call "_law_copy" [(.var 2)]),
    .asg 6 (.make "Count" [(.var 1), (.var 5), (.var 3)]),
    .asg 7 (.make "Count" [(.cst (.int 2)), (.lst (.disp [(.tupE [(.cst (.int 3)), (.lst (.disp [(.cst (.int 1)), (.cst (.int 0))]))]), (.tupE [(.cst (.int 1)), (.lst (.disp [(.cst (.int 0))]))])])), (.cst (.int 1))]),
    .asg 8 (.make "Count" [(.var 1), (.call "_law_copy" [(.var 2)]), (.var 3)]),
    .lendA [5] (.for_ [14, 15] (.seq (.var 5)) b_law_1),
    .expr (.clearT (.var 5)),
    .asg 9 (.lst (.disp [(.lst (.ofSeq (.range (.var 1)))), (.lst (.comp e_law_2 [14, 15] (.seq (.var 2)) none)), (.lst (.disp []))])),
    .asg 10 (.lst (.disp [(.cst (.bool true)), (.var 9)])),
    .asg 11 (.track (.disp [])),
    .asg 12 (.track (.disp [])),
    .for_ [13] (.seq (.lst (.from_ (.var 0) (.cst (.int 6))))) b_law_2,
    .iff (.or_ (.cmp .ne (.meth (.var 8) "standing") (.idx (.idx (.var 10) (.cst (.int 1))) (.cst (.int 0)))) (.or_ (.cmp .ne (.meth (.var 8) "left") (.idx (.idx (.var 10) (.cst (.int 1))) (.cst (.int 1)))) (.cmp .ne (.meth (.var 8) "seats") (.idx (.idx (.var 10) (.cst (.int 1))) (.cst (.int 2))))))
      [.ret (.cst (.bool false))]
      [],
    .ret (.and_ (.lendE [12] (.cmp .eq (.lst (.comp e_law_3 [17, 18] (.seq (.var 12)) (some p_law_1))) (.lst (.disp [])))) (.call "_law_beside" [(.var 7)]))]
noncomputable def c_law : Scope := fnScope (stmtAt P 46)
theorem sq_law : (recOf P "law").scope = c_law := by kernel_rfl
theorem bq_law : (recOf P "law").body = fnBody (stmtAt P 46) := by kernel_rfl

structure Has (X : Cx) (c : CA) : Prop where
  gnd : Gnd X
  is_whole_is : FnIs X "is_whole" (recOf P "is_whole").scope ["thing", "least", "most"] (recOf P "is_whole").body
  is_row_is : FnIs X "is_row" (recOf P "is_row").scope ["thing", "candidates"] (recOf P "is_row").body
  is_ballot_is : FnIs X "is_ballot" (recOf P "is_ballot").scope ["thing", "candidates"] (recOf P "is_ballot").body
  need_vote_is : FnIs X "need_vote" (recOf P "need_vote").scope ["candidates", "ballots", "seats"] (recOf P "need_vote").body
  most_held_is : FnIs X "most_held" (recOf P "most_held").scope ["holdings", "standing"] (recOf P "most_held").body
  least_held_is : FnIs X "least_held" (recOf P "least_held").scope ["holdings", "standing"] (recOf P "least_held").body
  deed_of_is : FnIs X "deed_of" (recOf P "deed_of").scope ["holdings", "standing", "seats", "many"] (recOf P "deed_of").body
  place_of_is : FnIs X "place_of" (recOf P "place_of").scope ["row", "standing"] (recOf P "place_of").body
  held_is : FnIs X "held" (recOf P "held").scope ["candidates", "places", "left"] (recOf P "held").body
  all_weights_is : FnIs X "all_weights" (recOf P "all_weights").scope ["ballots"] (recOf P "all_weights").body
  quota_is : FnIs X "quota" (recOf P "quota").scope ["ballots", "seats"] (recOf P "quota").body
  parts_is : FnIs X "parts" (recOf P "parts").scope ["weights", "some"] (recOf P "parts").body
  Count_init_is : FnAt X c.init c_Count_init ["self", "candidates", "ballots", "seats"] (fnBody (methAt P 26 0))
  Count_step_is : FnAt X c.step c_Count_step ["self"] (fnBody (methAt P 26 1))
  Count_back_is : FnAt X c.back c_Count_back ["self"] (fnBody (methAt P 26 2))
  Count_standing_is : FnAt X c.standing c_Count_standing ["self"] (fnBody (methAt P 26 3))
  Count_places_is : FnAt X c.places c_Count_places ["self"] (fnBody (methAt P 26 4))
  Count_left_is : FnAt X c.left c_Count_left ["self"] (fnBody (methAt P 26 5))
  Count_seats_is : FnAt X c.seats c_Count_seats ["self"] (fnBody (methAt P 26 6))
  law_cell_is : FnIs X "_law_cell" (recOf P "_law_cell").scope ["_law_script", "_law_k"] (recOf P "_law_cell").body
  law_whole_is : FnIs X "_law_whole" (recOf P "_law_whole").scope ["_law_found"] (recOf P "_law_whole").body
  law_row_is : FnIs X "_law_row" (recOf P "_law_row").scope ["_law_cell_here", "_law_candidates_here"] (recOf P "_law_row").body
  law_weight_is : FnIs X "_law_weight" (recOf P "_law_weight").scope ["_law_cell_here", "_law_kind"] (recOf P "_law_weight").body
  law_candidates_is : FnIs X "_law_candidates" (recOf P "_law_candidates").scope ["_law_script"] (recOf P "_law_candidates").body
  law_ballots_is : FnIs X "_law_ballots" (recOf P "_law_ballots").scope ["_law_script", "_law_candidates_here"] (recOf P "_law_ballots").body
  law_copy_is : FnIs X "_law_copy" (recOf P "_law_copy").scope ["_law_ballots_here"] (recOf P "_law_copy").body
  law_place_is : FnIs X "_law_place" (recOf P "_law_place").scope ["_law_row_here", "_law_standing"] (recOf P "_law_place").body
  law_gather_is : FnIs X "_law_gather" (recOf P "_law_gather").scope ["_law_candidate", "_law_places", "_law_left"] (recOf P "_law_gather").body
  law_parts_is : FnIs X "_law_parts" (recOf P "_law_parts").scope ["_law_weights", "_law_some"] (recOf P "_law_parts").body
  law_first_is : FnIs X "_law_first" (recOf P "_law_first").scope ["_law_holdings", "_law_standing"] (recOf P "_law_first").body
  law_last_is : FnIs X "_law_last" (recOf P "_law_last").scope ["_law_holdings", "_law_standing"] (recOf P "_law_last").body
  law_after_is : FnIs X "_law_after" (recOf P "_law_after").scope ["_law_ballots_here", "_law_seats", "_law_enough", "_law_state"] (recOf P "_law_after").body
  law_asked_is : FnIs X "_law_asked" (recOf P "_law_asked").scope ["_law_count", "_law_which"] (recOf P "_law_asked").body
  law_stands_is : FnIs X "_law_stands" (recOf P "_law_stands").scope ["_law_count", "_law_ballots_here", "_law_state", "_law_cell_here", "_law_kept"] (recOf P "_law_stands").body
  law_done_is : FnIs X "_law_done" (recOf P "_law_done").scope ["_law_count", "_law_ballots_here", "_law_seats", "_law_enough", "_law_state"] (recOf P "_law_done").body
  law_beside_is : FnIs X "_law_beside" (recOf P "_law_beside").scope ["_law_beside_here"] (recOf P "_law_beside").body
  law_back_is : FnIs X "_law_back" (recOf P "_law_back").scope ["_law_count", "_law_past"] (recOf P "_law_back").body
  law_is : FnIs X "law" (recOf P "law").scope ["_law_script"] (recOf P "law").body
  cnt : CountIs X c

theorem sc_is_whole : scOk c_is_whole n_is_whole ["thing", "least", "most"] = true := by kernel_rfl
theorem ok_is_whole {X : Cx} {c : CA} (H : Has X c) {n : Nat} : SSs X n c_is_whole n_is_whole (fnBody (stmtAt P 10)) m_is_whole :=
  (SSs_cons (SS_ret (SE_and (SE_isint H.gnd (SE_var (i := 0) (by kernel_rfl) (by kernel_rfl) (by kernel_rfl)) (by kernel_rfl) (by kernel_rfl) (by kernel_rfl)) (SE_and (SE_not (SE_isbool H.gnd (SE_var (i := 0) (by kernel_rfl) (by kernel_rfl) (by kernel_rfl)) (by kernel_rfl) (by kernel_rfl) (by kernel_rfl))) (SE_one (SE_cmp2 rfl rfl (SE_var (i := 1) (by kernel_rfl) (by kernel_rfl) (by kernel_rfl)) (SE_var (i := 0) (by kernel_rfl) (by kernel_rfl) (by kernel_rfl)) (SE_var (i := 2) (by kernel_rfl) (by kernel_rfl) (by kernel_rfl)) (by kernel_rfl)))))) SSs_nil)
theorem call_is_whole {X : Cx} {c : CA} (H : Has X c) {n : Nat} {d0 d1 d2 : D} {σ : Sg} {Q : D → Sg → Prop} (h : mExecs X n m_is_whole [.val d0, .val d1, .val d2] σ (fun fl xx σ' => (∀ b, σ b ≠ none → σ' b ≠ none) ∧ Q (flD fl) σ')) :
    CallSem X (n + 1) "is_whole" [d0, d1, d2] σ Q := call_intro H.gnd (sq_is_whole ▸ bq_is_whole ▸ H.is_whole_is) (ScOk.of sc_is_whole) (ok_is_whole H) rfl h

theorem sc_is_row : scOk c_is_row n_is_row ["thing", "candidates"] = true := by kernel_rfl
theorem ok_is_row {X : Cx} {c : CA} (H : Has X c) {n : Nat} : SSs X n c_is_row n_is_row (fnBody (stmtAt P 11)) m_is_row :=
  (SSs_cons (SS_if (ST_not (ST_plain (SE_islist H.gnd (SE_var (i := 0) (by kernel_rfl) (by kernel_rfl) (by kernel_rfl)) (by kernel_rfl) (by kernel_rfl) (by kernel_rfl)) (by kernel_rfl))) (SSs_cons (SS_ret SE_bool) SSs_nil) SSs_nil) (SSs_cons (SS_for (tgt_of (by kernel_rfl)) (SI_enum H.gnd (SE_var (i := 0) (by kernel_rfl) (by kernel_rfl) (by kernel_rfl)) (by kernel_rfl) (by kernel_rfl)) (SSs_cons (SS_if (ST_or (ST_not (ST_plain (SE_call H.gnd H.is_whole_is.isFn (SEs_cons (SE_var (i := 3) (by kernel_rfl) (by kernel_rfl) (by kernel_rfl)) (SEs_cons SE_int (SEs_cons (SE_bin rfl (SE_var (i := 1) (by kernel_rfl) (by kernel_rfl) (by kernel_rfl)) SE_int) SEs_nil (by kernel_rfl)) (by kernel_rfl)) (by kernel_rfl)) (by kernel_rfl) (by kernel_rfl) (by kernel_rfl)) (by kernel_rfl))) (ST_one_or (ST_cmp rfl (SE_var (i := 3) (by kernel_rfl) (by kernel_rfl) (by kernel_rfl)) (SE_lst (SL_upto (SE_var (i := 0) (by kernel_rfl) (by kernel_rfl) (by kernel_rfl)) (SE_var (i := 2) (by kernel_rfl) (by kernel_rfl) (by kernel_rfl)))) (by kernel_rfl)))) (SSs_cons (SS_ret SE_bool) SSs_nil) SSs_nil) SSs_nil) (by kernel_rfl)) (SSs_cons (SS_ret SE_bool) SSs_nil)))
theorem call_is_row {X : Cx} {c : CA} (H : Has X c) {n : Nat} {d0 d1 : D} {σ : Sg} {Q : D → Sg → Prop} (h : mExecs X n m_is_row [.val d0, .val d1, .unb, .unb] σ (fun fl xx σ' => (∀ b, σ b ≠ none → σ' b ≠ none) ∧ Q (flD fl) σ')) :
    CallSem X (n + 1) "is_row" [d0, d1] σ Q := call_intro H.gnd (sq_is_row ▸ bq_is_row ▸ H.is_row_is) (ScOk.of sc_is_row) (ok_is_row H) rfl h

theorem sc_is_ballot : scOk c_is_ballot n_is_ballot ["thing", "candidates"] = true := by kernel_rfl
theorem ok_is_ballot {X : Cx} {c : CA} (H : Has X c) {n : Nat} : SSs X n c_is_ballot n_is_ballot (fnBody (stmtAt P 12)) m_is_ballot :=
  (SSs_cons (SS_if (ST_or (ST_not (ST_plain (SE_istuple H.gnd (SE_var (i := 0) (by kernel_rfl) (by kernel_rfl) (by kernel_rfl)) (by kernel_rfl) (by kernel_rfl) (by kernel_rfl)) (by kernel_rfl))) (ST_one_or (ST_cmp rfl (SE_len H.gnd (SE_var (i := 0) (by kernel_rfl) (by kernel_rfl) (by kernel_rfl)) (by kernel_rfl) (by kernel_rfl)) SE_int (by kernel_rfl)))) (SSs_cons (SS_ret SE_bool) SSs_nil) SSs_nil) (SSs_cons (SS_ret (SE_and (SE_call H.gnd H.is_whole_is.isFn (SEs_cons (SE_idx (SE_var (i := 0) (by kernel_rfl) (by kernel_rfl) (by kernel_rfl)) SE_int (by kernel_rfl)) (SEs_cons SE_int (SEs_cons (SE_glob H.gnd (by kernel_rfl) (by kernel_rfl)) SEs_nil (by kernel_rfl)) (by kernel_rfl)) (by kernel_rfl)) (by kernel_rfl) (by kernel_rfl) (by kernel_rfl)) (SE_one (SE_call H.gnd H.is_row_is.isFn (SEs_cons (SE_idx (SE_var (i := 0) (by kernel_rfl) (by kernel_rfl) (by kernel_rfl)) SE_int (by kernel_rfl)) (SEs_cons (SE_var (i := 1) (by kernel_rfl) (by kernel_rfl) (by kernel_rfl)) SEs_nil (by kernel_rfl)) (by kernel_rfl)) (by kernel_rfl) (by kernel_rfl) (by kernel_rfl))))) SSs_nil))
theorem call_is_ballot {X : Cx} {c : CA} (H : Has X c) {n : Nat} {d0 d1 : D} {σ : Sg} {Q : D → Sg → Prop} (h : mExecs X n m_is_ballot [.val d0, .val d1] σ (fun fl xx σ' => (∀ b, σ b ≠ none → σ' b ≠ none) ∧ Q (flD fl) σ')) :
    CallSem X (n + 1) "is_ballot" [d0, d1] σ Q := call_intro H.gnd (sq_is_ballot ▸ bq_is_ballot ▸ H.is_ballot_is) (ScOk.of sc_is_ballot) (ok_is_ballot H) rfl h

theorem sc_need_vote : scOk c_need_vote n_need_vote ["candidates", "ballots", "seats"] = true := by kernel_rfl
theorem ok_need_vote {X : Cx} {c : CA} (H : Has X c) {n : Nat} : SSs X n c_need_vote n_need_vote (fnBody (stmtAt P 13)) m_need_vote :=
  (SSs_cons (SS_if (ST_not (ST_plain (SE_call H.gnd H.is_whole_is.isFn (SEs_cons (SE_var (i := 0) (by kernel_rfl) (by kernel_rfl) (by kernel_rfl)) (SEs_cons SE_int (SEs_cons (SE_glob H.gnd (by kernel_rfl) (by kernel_rfl)) SEs_nil (by kernel_rfl)) (by kernel_rfl)) (by kernel_rfl)) (by kernel_rfl) (by kernel_rfl) (by kernel_rfl)) (by kernel_rfl))) (SSs_cons SS_dead SSs_nil) SSs_nil) (SSs_cons (SS_if (ST_not (ST_plain (SE_call H.gnd H.is_whole_is.isFn (SEs_cons (SE_var (i := 2) (by kernel_rfl) (by kernel_rfl) (by kernel_rfl)) (SEs_cons SE_int (SEs_cons (SE_var (i := 0) (by kernel_rfl) (by kernel_rfl) (by kernel_rfl)) SEs_nil (by kernel_rfl)) (by kernel_rfl)) (by kernel_rfl)) (by kernel_rfl) (by kernel_rfl) (by kernel_rfl)) (by kernel_rfl))) (SSs_cons SS_dead SSs_nil) SSs_nil) (SSs_cons (SS_if (ST_cmp rfl (SE_len H.gnd (SE_var (i := 1) (by kernel_rfl) (by kernel_rfl) (by kernel_rfl)) (by kernel_rfl) (by kernel_rfl)) (SE_glob H.gnd (by kernel_rfl) (by kernel_rfl)) (by kernel_rfl)) (SSs_cons SS_dead SSs_nil) SSs_nil) (SSs_cons (SS_for (tgt_of (by kernel_rfl)) (SI_seq (SE_var (i := 1) (by kernel_rfl) (by kernel_rfl) (by kernel_rfl))) (SSs_cons (SS_if (ST_not (ST_plain (SE_call H.gnd H.is_ballot_is.isFn (SEs_cons (SE_var (i := 3) (by kernel_rfl) (by kernel_rfl) (by kernel_rfl)) (SEs_cons (SE_var (i := 0) (by kernel_rfl) (by kernel_rfl) (by kernel_rfl)) SEs_nil (by kernel_rfl)) (by kernel_rfl)) (by kernel_rfl) (by kernel_rfl) (by kernel_rfl)) (by kernel_rfl))) (SSs_cons SS_dead SSs_nil) SSs_nil) SSs_nil) (by kernel_rfl)) SSs_nil))))
theorem call_need_vote {X : Cx} {c : CA} (H : Has X c) {n : Nat} {d0 d1 d2 : D} {σ : Sg} {Q : D → Sg → Prop} (h : mExecs X n m_need_vote [.val d0, .val d1, .val d2, .unb] σ (fun fl xx σ' => (∀ b, σ b ≠ none → σ' b ≠ none) ∧ Q (flD fl) σ')) :
    CallSem X (n + 1) "need_vote" [d0, d1, d2] σ Q := call_intro H.gnd (sq_need_vote ▸ bq_need_vote ▸ H.need_vote_is) (ScOk.of sc_need_vote) (ok_need_vote H) rfl h

theorem sc_most_held : scOk c_most_held n_most_held ["holdings", "standing"] = true := by kernel_rfl
theorem ok_most_held {X : Cx} {c : CA} (H : Has X c) {n : Nat} : SSs X n c_most_held n_most_held (fnBody (stmtAt P 15)) m_most_held :=
  (SSs_cons (SS_asg (i := 2) (by kernel_rfl) (by kernel_rfl) (SE_idx (SE_var (i := 1) (by kernel_rfl) (by kernel_rfl) (by kernel_rfl)) SE_int (by kernel_rfl)) (by kernel_rfl)) (SSs_cons (SS_for (tgt_of (by kernel_rfl)) (SI_seq (SE_var (i := 1) (by kernel_rfl) (by kernel_rfl) (by kernel_rfl))) (SSs_cons (SS_if (ST_cmp rfl (SE_idx (SE_var (i := 0) (by kernel_rfl) (by kernel_rfl) (by kernel_rfl)) (SE_var (i := 3) (by kernel_rfl) (by kernel_rfl) (by kernel_rfl)) (by kernel_rfl)) (SE_idx (SE_var (i := 0) (by kernel_rfl) (by kernel_rfl) (by kernel_rfl)) (SE_var (i := 2) (by kernel_rfl) (by kernel_rfl) (by kernel_rfl)) (by kernel_rfl)) (by kernel_rfl)) (SSs_cons (SS_asg (i := 2) (by kernel_rfl) (by kernel_rfl) (SE_var (i := 3) (by kernel_rfl) (by kernel_rfl) (by kernel_rfl)) (by kernel_rfl)) SSs_nil) SSs_nil) SSs_nil) (by kernel_rfl)) (SSs_cons (SS_ret (SE_var (i := 2) (by kernel_rfl) (by kernel_rfl) (by kernel_rfl))) SSs_nil)))
theorem call_most_held {X : Cx} {c : CA} (H : Has X c) {n : Nat} {d0 d1 : D} {σ : Sg} {Q : D → Sg → Prop} (h : mExecs X n m_most_held [.val d0, .val d1, .unb, .unb] σ (fun fl xx σ' => (∀ b, σ b ≠ none → σ' b ≠ none) ∧ Q (flD fl) σ')) :
    CallSem X (n + 1) "most_held" [d0, d1] σ Q := call_intro H.gnd (sq_most_held ▸ bq_most_held ▸ H.most_held_is) (ScOk.of sc_most_held) (ok_most_held H) rfl h

theorem sc_least_held : scOk c_least_held n_least_held ["holdings", "standing"] = true := by kernel_rfl
theorem ok_least_held {X : Cx} {c : CA} (H : Has X c) {n : Nat} : SSs X n c_least_held n_least_held (fnBody (stmtAt P 16)) m_least_held :=
  (SSs_cons (SS_asg (i := 2) (by kernel_rfl) (by kernel_rfl) (SE_idx (SE_var (i := 1) (by kernel_rfl) (by kernel_rfl) (by kernel_rfl)) SE_int (by kernel_rfl)) (by kernel_rfl)) (SSs_cons (SS_for (tgt_of (by kernel_rfl)) (SI_seq (SE_var (i := 1) (by kernel_rfl) (by kernel_rfl) (by kernel_rfl))) (SSs_cons (SS_if (ST_cmp rfl (SE_idx (SE_var (i := 0) (by kernel_rfl) (by kernel_rfl) (by kernel_rfl)) (SE_var (i := 3) (by kernel_rfl) (by kernel_rfl) (by kernel_rfl)) (by kernel_rfl)) (SE_idx (SE_var (i := 0) (by kernel_rfl) (by kernel_rfl) (by kernel_rfl)) (SE_var (i := 2) (by kernel_rfl) (by kernel_rfl) (by kernel_rfl)) (by kernel_rfl)) (by kernel_rfl)) (SSs_cons (SS_asg (i := 2) (by kernel_rfl) (by kernel_rfl) (SE_var (i := 3) (by kernel_rfl) (by kernel_rfl) (by kernel_rfl)) (by kernel_rfl)) SSs_nil) SSs_nil) SSs_nil) (by kernel_rfl)) (SSs_cons (SS_ret (SE_var (i := 2) (by kernel_rfl) (by kernel_rfl) (by kernel_rfl))) SSs_nil)))
theorem call_least_held {X : Cx} {c : CA} (H : Has X c) {n : Nat} {d0 d1 : D} {σ : Sg} {Q : D → Sg → Prop} (h : mExecs X n m_least_held [.val d0, .val d1, .unb, .unb] σ (fun fl xx σ' => (∀ b, σ b ≠ none → σ' b ≠ none) ∧ Q (flD fl) σ')) :
    CallSem X (n + 1) "least_held" [d0, d1] σ Q := call_intro H.gnd (sq_least_held ▸ bq_least_held ▸ H.least_held_is) (ScOk.of sc_least_held) (ok_least_held H) rfl h

theorem sc_deed_of : scOk c_deed_of n_deed_of ["holdings", "standing", "seats", "many"] = true := by kernel_rfl
theorem ok_deed_of {X : Cx} {c : CA} (H : Has X c) {n : Nat} : SSs X n c_deed_of n_deed_of (fnBody (stmtAt P 17)) m_deed_of :=
  (SSs_cons (SS_if (ST_cmp rfl (SE_var (i := 2) (by kernel_rfl) (by kernel_rfl) (by kernel_rfl)) SE_int (by kernel_rfl)) (SSs_cons (SS_ret SE_none) SSs_nil) SSs_nil) (SSs_cons (SS_asg (i := 4) (by kernel_rfl) (by kernel_rfl) (SE_call H.gnd H.most_held_is.isFn (SEs_cons (SE_var (i := 0) (by kernel_rfl) (by kernel_rfl) (by kernel_rfl)) (SEs_cons (SE_var (i := 1) (by kernel_rfl) (by kernel_rfl) (by kernel_rfl)) SEs_nil (by kernel_rfl)) (by kernel_rfl)) (by kernel_rfl) (by kernel_rfl) (by kernel_rfl)) (by kernel_rfl)) (SSs_cons (SS_if (ST_or (ST_cmp rfl (SE_len H.gnd (SE_var (i := 1) (by kernel_rfl) (by kernel_rfl) (by kernel_rfl)) (by kernel_rfl) (by kernel_rfl)) (SE_var (i := 2) (by kernel_rfl) (by kernel_rfl) (by kernel_rfl)) (by kernel_rfl)) (ST_one_or (ST_cmp rfl (SE_idx (SE_var (i := 0) (by kernel_rfl) (by kernel_rfl) (by kernel_rfl)) (SE_var (i := 4) (by kernel_rfl) (by kernel_rfl) (by kernel_rfl)) (by kernel_rfl)) (SE_var (i := 3) (by kernel_rfl) (by kernel_rfl) (by kernel_rfl)) (by kernel_rfl)))) (SSs_cons (SS_ret (SE_tup (SEs_cons SE_str (SEs_cons (SE_var (i := 4) (by kernel_rfl) (by kernel_rfl) (by kernel_rfl)) SEs_nil (by kernel_rfl)) (by kernel_rfl)))) SSs_nil) SSs_nil) (SSs_cons (SS_ret (SE_tup (SEs_cons SE_str (SEs_cons (SE_call H.gnd H.least_held_is.isFn (SEs_cons (SE_var (i := 0) (by kernel_rfl) (by kernel_rfl) (by kernel_rfl)) (SEs_cons (SE_var (i := 1) (by kernel_rfl) (by kernel_rfl) (by kernel_rfl)) SEs_nil (by kernel_rfl)) (by kernel_rfl)) (by kernel_rfl) (by kernel_rfl) (by kernel_rfl)) SEs_nil (by kernel_rfl)) (by kernel_rfl)))) SSs_nil))))
theorem call_deed_of {X : Cx} {c : CA} (H : Has X c) {n : Nat} {d0 d1 d2 d3 : D} {σ : Sg} {Q : D → Sg → Prop} (h : mExecs X n m_deed_of [.val d0, .val d1, .val d2, .val d3, .unb] σ (fun fl xx σ' => (∀ b, σ b ≠ none → σ' b ≠ none) ∧ Q (flD fl) σ')) :
    CallSem X (n + 1) "deed_of" [d0, d1, d2, d3] σ Q := call_intro H.gnd (sq_deed_of ▸ bq_deed_of ▸ H.deed_of_is) (ScOk.of sc_deed_of) (ok_deed_of H) rfl h

theorem sc_place_of : scOk c_place_of n_place_of ["row", "standing"] = true := by kernel_rfl
theorem ok_place_of {X : Cx} {c : CA} (H : Has X c) {n : Nat} : SSs X n c_place_of n_place_of (fnBody (stmtAt P 19)) m_place_of :=
  (SSs_cons (SS_for (tgt_of (by kernel_rfl)) (SI_seq (SE_var (i := 0) (by kernel_rfl) (by kernel_rfl) (by kernel_rfl))) (SSs_cons (SS_if (ST_cmp rfl (SE_var (i := 2) (by kernel_rfl) (by kernel_rfl) (by kernel_rfl)) (SE_var (i := 1) (by kernel_rfl) (by kernel_rfl) (by kernel_rfl)) (by kernel_rfl)) (SSs_cons (SS_ret (SE_var (i := 2) (by kernel_rfl) (by kernel_rfl) (by kernel_rfl))) SSs_nil) SSs_nil) SSs_nil) (by kernel_rfl)) (SSs_cons (SS_ret SE_none) SSs_nil))
theorem call_place_of {X : Cx} {c : CA} (H : Has X c) {n : Nat} {d0 d1 : D} {σ : Sg} {Q : D → Sg → Prop} (h : mExecs X n m_place_of [.val d0, .val d1, .unb] σ (fun fl xx σ' => (∀ b, σ b ≠ none → σ' b ≠ none) ∧ Q (flD fl) σ')) :
    CallSem X (n + 1) "place_of" [d0, d1] σ Q := call_intro H.gnd (sq_place_of ▸ bq_place_of ▸ H.place_of_is) (ScOk.of sc_place_of) (ok_place_of H) rfl h

theorem sc_held : scOk c_held n_held ["candidates", "places", "left"] = true := by kernel_rfl
theorem ok_held {X : Cx} {c : CA} (H : Has X c) {n : Nat} : SSs X n c_held n_held (fnBody (stmtAt P 20)) m_held :=
  (SSs_cons (SS_asgM (i := 3) (by kernel_rfl) (by kernel_rfl) (SL_rep SE_int (SE_var (i := 0) (by kernel_rfl) (by kernel_rfl) (by kernel_rfl)) (by kernel_rfl)) (by kernel_rfl)) (SSs_cons (SS_for (tgt_of (by kernel_rfl)) (SI_zip H.gnd (SE_var (i := 1) (by kernel_rfl) (by kernel_rfl) (by kernel_rfl)) (SE_var (i := 2) (by kernel_rfl) (by kernel_rfl) (by kernel_rfl)) (by kernel_rfl) (by kernel_rfl) (by kernel_rfl)) (SSs_cons (SS_if (ST_cmp rfl (SE_var (i := 4) (by kernel_rfl) (by kernel_rfl) (by kernel_rfl)) SE_none (by kernel_rfl)) (SSs_cons (SS_setI (i := 3) (by kernel_rfl) (by kernel_rfl) (by kernel_rfl) (SE_borrow (by kernel_rfl) (SE_bin rfl (SE_idx (SE_var (i := 3) (by kernel_rfl) (by kernel_rfl) (by kernel_rfl)) (SE_var (i := 4) (by kernel_rfl) (by kernel_rfl) (by kernel_rfl)) (by kernel_rfl)) (SE_var (i := 5) (by kernel_rfl) (by kernel_rfl) (by kernel_rfl)))) (SE_var (i := 4) (by kernel_rfl) (by kernel_rfl) (by kernel_rfl)) (by kernel_rfl)) SSs_nil) SSs_nil) SSs_nil) (by kernel_rfl)) (SSs_freeze (i := 3) (x := "found") (by kernel_rfl) (by kernel_rfl) (SSs_cons (SS_ret (SE_var (i := 3) (by kernel_rfl) (by kernel_rfl) (by kernel_rfl))) SSs_nil))))
theorem call_held {X : Cx} {c : CA} (H : Has X c) {n : Nat} {d0 d1 d2 : D} {σ : Sg} {Q : D → Sg → Prop} (h : mExecs X n m_held [.val d0, .val d1, .val d2, .unb, .unb, .unb] σ (fun fl xx σ' => (∀ b, σ b ≠ none → σ' b ≠ none) ∧ Q (flD fl) σ')) :
    CallSem X (n + 1) "held" [d0, d1, d2] σ Q := call_intro H.gnd (sq_held ▸ bq_held ▸ H.held_is) (ScOk.of sc_held) (ok_held H) rfl h

theorem sc_all_weights : scOk c_all_weights n_all_weights ["ballots"] = true := by kernel_rfl
theorem ok_all_weights {X : Cx} {c : CA} (H : Has X c) {n : Nat} : SSs X n c_all_weights n_all_weights (fnBody (stmtAt P 22)) m_all_weights :=
  (SSs_cons (SS_ret (SE_sum H.gnd (SE_lst (SL_comp (comp_of (by kernel_rfl)) (tgtL_of (by kernel_rfl)) (SI_seq (SE_var (i := 0) (by kernel_rfl) (by kernel_rfl) (by kernel_rfl))) (SE_idx (SE_var (i := 1) (by kernel_rfl) (by kernel_rfl) (by kernel_rfl)) SE_int (by kernel_rfl)) CondOk.nil (by kernel_rfl))) (by kernel_rfl) (by kernel_rfl))) SSs_nil)
theorem call_all_weights {X : Cx} {c : CA} (H : Has X c) {n : Nat} {d0 : D} {σ : Sg} {Q : D → Sg → Prop} (h : mExecs X n m_all_weights [.val d0, .unb] σ (fun fl xx σ' => (∀ b, σ b ≠ none → σ' b ≠ none) ∧ Q (flD fl) σ')) :
    CallSem X (n + 1) "all_weights" [d0] σ Q := call_intro H.gnd (sq_all_weights ▸ bq_all_weights ▸ H.all_weights_is) (ScOk.of sc_all_weights) (ok_all_weights H) rfl h

theorem sc_quota : scOk c_quota n_quota ["ballots", "seats"] = true := by kernel_rfl
theorem ok_quota {X : Cx} {c : CA} (H : Has X c) {n : Nat} : SSs X n c_quota n_quota (fnBody (stmtAt P 23)) m_quota :=
  (SSs_cons (SS_ret (SE_bin rfl (SE_bin rfl (SE_call H.gnd H.all_weights_is.isFn (SEs_cons (SE_var (i := 0) (by kernel_rfl) (by kernel_rfl) (by kernel_rfl)) SEs_nil (by kernel_rfl)) (by kernel_rfl) (by kernel_rfl) (by kernel_rfl)) (SE_bin rfl (SE_var (i := 1) (by kernel_rfl) (by kernel_rfl) (by kernel_rfl)) SE_int)) SE_int)) SSs_nil)
theorem call_quota {X : Cx} {c : CA} (H : Has X c) {n : Nat} {d0 d1 : D} {σ : Sg} {Q : D → Sg → Prop} (h : mExecs X n m_quota [.val d0, .val d1] σ (fun fl xx σ' => (∀ b, σ b ≠ none → σ' b ≠ none) ∧ Q (flD fl) σ')) :
    CallSem X (n + 1) "quota" [d0, d1] σ Q := call_intro H.gnd (sq_quota ▸ bq_quota ▸ H.quota_is) (ScOk.of sc_quota) (ok_quota H) rfl h

theorem sc_parts : scOk c_parts n_parts ["weights", "some"] = true := by kernel_rfl
theorem ok_parts {X : Cx} {c : CA} (H : Has X c) {n : Nat} : SSs X n c_parts n_parts (fnBody (stmtAt P 24)) m_parts :=
  (SSs_cons (SS_asg (i := 2) (by kernel_rfl) (by kernel_rfl) (SE_sum H.gnd (SE_var (i := 0) (by kernel_rfl) (by kernel_rfl) (by kernel_rfl)) (by kernel_rfl) (by kernel_rfl)) (by kernel_rfl)) (SSs_cons (SS_asgM (i := 3) (by kernel_rfl) (by kernel_rfl) (SL_disp SEs_nil) (by kernel_rfl)) (SSs_cons (SS_asg (i := 4) (by kernel_rfl) (by kernel_rfl) SE_int (by kernel_rfl)) (SSs_cons (SS_asg (i := 5) (by kernel_rfl) (by kernel_rfl) SE_int (by kernel_rfl)) (SSs_cons (SS_for (tgt_of (by kernel_rfl)) (SI_seq (SE_var (i := 0) (by kernel_rfl) (by kernel_rfl) (by kernel_rfl))) (SSs_cons (SS_asg (i := 4) (by kernel_rfl) (by kernel_rfl) (SE_bin rfl (SE_var (i := 4) (by kernel_rfl) (by kernel_rfl) (by kernel_rfl)) (SE_var (i := 6) (by kernel_rfl) (by kernel_rfl) (by kernel_rfl))) (by kernel_rfl)) (SSs_cons (SS_asg (i := 7) (by kernel_rfl) (by kernel_rfl) SE_int (by kernel_rfl)) (SSs_cons (SS_if (ST_cmp rfl (SE_var (i := 2) (by kernel_rfl) (by kernel_rfl) (by kernel_rfl)) SE_int (by kernel_rfl)) (SSs_cons (SS_asg (i := 7) (by kernel_rfl) (by kernel_rfl) (SE_bin rfl (SE_bin rfl (SE_bin rfl (SE_var (i := 4) (by kernel_rfl) (by kernel_rfl) (by kernel_rfl)) (SE_var (i := 1) (by kernel_rfl) (by kernel_rfl) (by kernel_rfl))) (SE_var (i := 2) (by kernel_rfl) (by kernel_rfl) (by kernel_rfl))) (SE_var (i := 5) (by kernel_rfl) (by kernel_rfl) (by kernel_rfl))) (by kernel_rfl)) SSs_nil) SSs_nil) (SSs_cons (SS_app (i := 3) (by kernel_rfl) (by kernel_rfl) (by kernel_rfl) (SE_var (i := 7) (by kernel_rfl) (by kernel_rfl) (by kernel_rfl)) (by kernel_rfl) (by kernel_rfl)) (SSs_cons (SS_asg (i := 5) (by kernel_rfl) (by kernel_rfl) (SE_bin rfl (SE_var (i := 5) (by kernel_rfl) (by kernel_rfl) (by kernel_rfl)) (SE_var (i := 7) (by kernel_rfl) (by kernel_rfl) (by kernel_rfl))) (by kernel_rfl)) SSs_nil))))) (by kernel_rfl)) (SSs_freeze (i := 3) (x := "found") (by kernel_rfl) (by kernel_rfl) (SSs_cons (SS_ret (SE_var (i := 3) (by kernel_rfl) (by kernel_rfl) (by kernel_rfl))) SSs_nil)))))))
theorem call_parts {X : Cx} {c : CA} (H : Has X c) {n : Nat} {d0 d1 : D} {σ : Sg} {Q : D → Sg → Prop} (h : mExecs X n m_parts [.val d0, .val d1, .unb, .unb, .unb, .unb, .unb, .unb] σ (fun fl xx σ' => (∀ b, σ b ≠ none → σ' b ≠ none) ∧ Q (flD fl) σ')) :
    CallSem X (n + 1) "parts" [d0, d1] σ Q := call_intro H.gnd (sq_parts ▸ bq_parts ▸ H.parts_is) (ScOk.of sc_parts) (ok_parts H) rfl h

theorem sc_Count_init : scOk c_Count_init n_Count_init ["self", "candidates", "ballots", "seats"] = true := by kernel_rfl
theorem ok_Count_init {X : Cx} {c : CA} (H : Has X c) {n : Nat} : SSs X n c_Count_init n_Count_init (fnBody (methAt P 26 0)) m_Count_init :=
  (SSs_cons (SS_lendA (ch := [2]) (by kernel_rfl) (SS_expr (SE_call H.gnd H.need_vote_is.isFn (SEs_cons (SE_var (i := 1) (by kernel_rfl) (by kernel_rfl) (by kernel_rfl)) (SEs_cons (SE_var (i := 2) (by kernel_rfl) (by kernel_rfl) (by kernel_rfl)) (SEs_cons (SE_var (i := 3) (by kernel_rfl) (by kernel_rfl) (by kernel_rfl)) SEs_nil (by kernel_rfl)) (by kernel_rfl)) (by kernel_rfl)) (by kernel_rfl) (by kernel_rfl) (by kernel_rfl)) (by kernel_rfl))) (SSs_cons (SS_setA (SE_var (i := 0) (by kernel_rfl) (by kernel_rfl) (by kernel_rfl)) (SE_var (i := 1) (by kernel_rfl) (by kernel_rfl) (by kernel_rfl)) fun xx => rfl) (SSs_cons (SS_setA (SE_var (i := 0) (by kernel_rfl) (by kernel_rfl) (by kernel_rfl)) (SE_var (i := 3) (by kernel_rfl) (by kernel_rfl) (by kernel_rfl)) fun xx => rfl) (SSs_cons (SS_setA (SE_var (i := 0) (by kernel_rfl) (by kernel_rfl) (by kernel_rfl)) (SE_lendE (ch := [2]) (by kernel_rfl) (SE_call H.gnd H.quota_is.isFn (SEs_cons (SE_var (i := 2) (by kernel_rfl) (by kernel_rfl) (by kernel_rfl)) (SEs_cons (SE_var (i := 3) (by kernel_rfl) (by kernel_rfl) (by kernel_rfl)) SEs_nil (by kernel_rfl)) (by kernel_rfl)) (by kernel_rfl) (by kernel_rfl) (by kernel_rfl))) fun xx => rfl) (SSs_cons (SS_setA (SE_var (i := 0) (by kernel_rfl) (by kernel_rfl) (by kernel_rfl)) (SE_lst (SL_lendL (ch := [2]) (by kernel_rfl) (SL_comp (comp_of (by kernel_rfl)) (tgtL_of (by kernel_rfl)) (SI_seq (SE_var (i := 2) (by kernel_rfl) (by kernel_rfl) (by kernel_rfl))) (SE_tuple1 H.gnd (SE_idx (SE_var (i := 4) (by kernel_rfl) (by kernel_rfl) (by kernel_rfl)) SE_int (by kernel_rfl)) (by kernel_rfl) (by kernel_rfl)) CondOk.nil (by kernel_rfl)))) fun xx => rfl) (SSs_cons (SS_setA (SE_var (i := 0) (by kernel_rfl) (by kernel_rfl) (by kernel_rfl)) (SE_track (SL_disp (SEs_cons (SE_tup (SEs_cons (SE_lst (SL_listRange H.gnd (SE_var (i := 1) (by kernel_rfl) (by kernel_rfl) (by kernel_rfl)) (by kernel_rfl) (by kernel_rfl) (by kernel_rfl))) (SEs_cons (SE_lst (SL_lendL (ch := [2]) (by kernel_rfl) (SL_comp (comp_of (by kernel_rfl)) (tgtL_of (by kernel_rfl)) (SI_seq (SE_var (i := 2) (by kernel_rfl) (by kernel_rfl) (by kernel_rfl))) (SE_idx (SE_var (i := 4) (by kernel_rfl) (by kernel_rfl) (by kernel_rfl)) SE_int (by kernel_rfl)) CondOk.nil (by kernel_rfl)))) (SEs_cons (SE_lst (SL_disp SEs_nil)) SEs_nil (by kernel_rfl)) (by kernel_rfl)) (by kernel_rfl))) SEs_nil (by kernel_rfl)))) fun xx => rfl) SSs_nil))))))
theorem call_Count_init {X : Cx} {c : CA} (H : Has X c) {n : Nat} {d0 d1 d2 d3 : D} {σ : Sg} {Q : D → Sg → Prop} (h : mExecs X n m_Count_init [.val d0, .val d1, .val d2, .val d3, .unb] σ (fun fl xx σ' => (∀ b, σ b ≠ none → σ' b ≠ none) ∧ Q (flD fl) σ')) :
    CallA X (n + 1) (.ref c.init) [d0, d1, d2, d3] σ Q := call_at H.gnd H.Count_init_is (ScOk.of sc_Count_init) (ok_Count_init H) rfl h

theorem sc_Count_step : scOk c_Count_step n_Count_step ["self"] = true := by kernel_rfl
theorem ok_Count_step {X : Cx} {c : CA} (H : Has X c) {n : Nat} : SSs X n c_Count_step n_Count_step (fnBody (methAt P 26 1)) m_Count_step :=
  (SSs_cons (SS_unp (tgts_of (by kernel_rfl)) (SE_last (SE_attr (SE_var (i := 0) (by kernel_rfl) (by kernel_rfl) (by kernel_rfl)))) (by kernel_rfl) (by kernel_rfl)) (SSs_cons (SS_asg (i := 1) (by kernel_rfl) (by kernel_rfl) (SE_meth (SE_var (i := 0) (by kernel_rfl) (by kernel_rfl) (by kernel_rfl)) (by kernel_rfl)) (by kernel_rfl)) (SSs_cons (SS_asg (i := 2) (by kernel_rfl) (by kernel_rfl) (SE_call H.gnd H.held_is.isFn (SEs_cons (SE_attr (SE_var (i := 0) (by kernel_rfl) (by kernel_rfl) (by kernel_rfl))) (SEs_cons (SE_var (i := 1) (by kernel_rfl) (by kernel_rfl) (by kernel_rfl)) (SEs_cons (SE_var (i := 11) (by kernel_rfl) (by kernel_rfl) (by kernel_rfl)) SEs_nil (by kernel_rfl)) (by kernel_rfl)) (by kernel_rfl)) (by kernel_rfl) (by kernel_rfl) (by kernel_rfl)) (by kernel_rfl)) (SSs_cons (SS_asg (i := 3) (by kernel_rfl) (by kernel_rfl) (SE_call H.gnd H.deed_of_is.isFn (SEs_cons (SE_var (i := 2) (by kernel_rfl) (by kernel_rfl) (by kernel_rfl)) (SEs_cons (SE_var (i := 10) (by kernel_rfl) (by kernel_rfl) (by kernel_rfl)) (SEs_cons (SE_bin rfl (SE_attr (SE_var (i := 0) (by kernel_rfl) (by kernel_rfl) (by kernel_rfl))) (SE_len H.gnd (SE_var (i := 12) (by kernel_rfl) (by kernel_rfl) (by kernel_rfl)) (by kernel_rfl) (by kernel_rfl))) (SEs_cons (SE_attr (SE_var (i := 0) (by kernel_rfl) (by kernel_rfl) (by kernel_rfl))) SEs_nil (by kernel_rfl)) (by kernel_rfl)) (by kernel_rfl)) (by kernel_rfl)) (by kernel_rfl) (by kernel_rfl) (by kernel_rfl)) (by kernel_rfl)) (SSs_cons (SS_if (ST_cmp rfl (SE_var (i := 3) (by kernel_rfl) (by kernel_rfl) (by kernel_rfl)) SE_none (by kernel_rfl)) (SSs_cons (SS_ret SE_none) SSs_nil) SSs_nil) (SSs_cons (SS_unp (tgts_of (by kernel_rfl)) (SE_var (i := 3) (by kernel_rfl) (by kernel_rfl) (by kernel_rfl)) (by kernel_rfl) (by kernel_rfl)) (SSs_cons (SS_frozen (i := 4) (x := "later") (by kernel_rfl) (by kernel_rfl) (SS_asgMC (i := 4) (by kernel_rfl) (by kernel_rfl) (comp_of (by kernel_rfl)) (tgtL_of (by kernel_rfl)) (SI_seq (SE_var (i := 10) (by kernel_rfl) (by kernel_rfl) (by kernel_rfl))) (SE_var (i := 17) (by kernel_rfl) (by kernel_rfl) (by kernel_rfl)) (CondOk.one (ST_cmp rfl (SE_var (i := 17) (by kernel_rfl) (by kernel_rfl) (by kernel_rfl)) (SE_var (i := 14) (by kernel_rfl) (by kernel_rfl) (by kernel_rfl)) (by kernel_rfl))) (by kernel_rfl))) (SSs_cons (SS_if (ST_cmp rfl (SE_var (i := 13) (by kernel_rfl) (by kernel_rfl) (by kernel_rfl)) SE_str (by kernel_rfl)) (SSs_cons (SS_expr (SE_appT (SE_attr (SE_var (i := 0) (by kernel_rfl) (by kernel_rfl) (by kernel_rfl))) (SE_tup (SEs_cons (SE_var (i := 4) (by kernel_rfl) (by kernel_rfl) (by kernel_rfl)) (SEs_cons (SE_var (i := 11) (by kernel_rfl) (by kernel_rfl) (by kernel_rfl)) (SEs_cons (SE_var (i := 12) (by kernel_rfl) (by kernel_rfl) (by kernel_rfl)) SEs_nil (by kernel_rfl)) (by kernel_rfl)) (by kernel_rfl))) (by kernel_rfl) (methA (by kernel_rfl) (by kernel_rfl) (by kernel_rfl))) (by kernel_rfl)) (SSs_cons (SS_ret (SE_var (i := 3) (by kernel_rfl) (by kernel_rfl) (by kernel_rfl))) SSs_nil)) SSs_nil) (SSs_cons (SS_frozen (i := 5) (x := "lying") (by kernel_rfl) (by kernel_rfl) (SS_asgMC (i := 5) (by kernel_rfl) (by kernel_rfl) (comp_of (by kernel_rfl)) (tgtL_of (by kernel_rfl)) (SI_range H.gnd (SE_len H.gnd (SE_var (i := 1) (by kernel_rfl) (by kernel_rfl) (by kernel_rfl)) (by kernel_rfl) (by kernel_rfl)) (by kernel_rfl) (by kernel_rfl)) (SE_var (i := 15) (by kernel_rfl) (by kernel_rfl) (by kernel_rfl)) (CondOk.one (ST_cmp rfl (SE_idx (SE_var (i := 1) (by kernel_rfl) (by kernel_rfl) (by kernel_rfl)) (SE_var (i := 15) (by kernel_rfl) (by kernel_rfl) (by kernel_rfl)) (by kernel_rfl)) (SE_var (i := 14) (by kernel_rfl) (by kernel_rfl) (by kernel_rfl)) (by kernel_rfl))) (by kernel_rfl))) (SSs_cons (SS_asg (i := 6) (by kernel_rfl) (by kernel_rfl) (SE_min2 H.gnd (SE_attr (SE_var (i := 0) (by kernel_rfl) (by kernel_rfl) (by kernel_rfl))) (SE_idx (SE_var (i := 2) (by kernel_rfl) (by kernel_rfl) (by kernel_rfl)) (SE_var (i := 14) (by kernel_rfl) (by kernel_rfl) (by kernel_rfl)) (by kernel_rfl)) (by kernel_rfl) (by kernel_rfl) (by kernel_rfl)) (by kernel_rfl)) (SSs_cons (SS_asg (i := 7) (by kernel_rfl) (by kernel_rfl) (SE_call H.gnd H.parts_is.isFn (SEs_cons (SE_lst (SL_comp (comp_of (by kernel_rfl)) (tgtL_of (by kernel_rfl)) (SI_seq (SE_var (i := 5) (by kernel_rfl) (by kernel_rfl) (by kernel_rfl))) (SE_idx (SE_var (i := 11) (by kernel_rfl) (by kernel_rfl) (by kernel_rfl)) (SE_var (i := 15) (by kernel_rfl) (by kernel_rfl) (by kernel_rfl)) (by kernel_rfl)) CondOk.nil (by kernel_rfl))) (SEs_cons (SE_var (i := 6) (by kernel_rfl) (by kernel_rfl) (by kernel_rfl)) SEs_nil (by kernel_rfl)) (by kernel_rfl)) (by kernel_rfl) (by kernel_rfl) (by kernel_rfl)) (by kernel_rfl)) (SSs_cons (SS_asgM (i := 8) (by kernel_rfl) (by kernel_rfl) (SL_list H.gnd (SE_var (i := 11) (by kernel_rfl) (by kernel_rfl) (by kernel_rfl)) (by kernel_rfl) (by kernel_rfl)) (by kernel_rfl)) (SSs_cons (SS_asgM (i := 9) (by kernel_rfl) (by kernel_rfl) (SL_disp SEs_nil) (by kernel_rfl)) (SSs_cons (SS_for (tgt_of (by kernel_rfl)) (SI_zip H.gnd (SE_var (i := 5) (by kernel_rfl) (by kernel_rfl) (by kernel_rfl)) (SE_var (i := 7) (by kernel_rfl) (by kernel_rfl) (by kernel_rfl)) (by kernel_rfl) (by kernel_rfl) (by kernel_rfl)) (SSs_cons (SS_setI (i := 8) (by kernel_rfl) (by kernel_rfl) (by kernel_rfl) (SE_borrow (by kernel_rfl) (SE_bin rfl (SE_idx (SE_var (i := 8) (by kernel_rfl) (by kernel_rfl) (by kernel_rfl)) (SE_var (i := 15) (by kernel_rfl) (by kernel_rfl) (by kernel_rfl)) (by kernel_rfl)) (SE_var (i := 16) (by kernel_rfl) (by kernel_rfl) (by kernel_rfl)))) (SE_var (i := 15) (by kernel_rfl) (by kernel_rfl) (by kernel_rfl)) (by kernel_rfl)) (SSs_cons (SS_if (ST_cmp rfl (SE_var (i := 16) (by kernel_rfl) (by kernel_rfl) (by kernel_rfl)) SE_int (by kernel_rfl)) (SSs_cons (SS_app (i := 9) (by kernel_rfl) (by kernel_rfl) (by kernel_rfl) (SE_tup (SEs_cons (SE_var (i := 15) (by kernel_rfl) (by kernel_rfl) (by kernel_rfl)) (SEs_cons (SE_var (i := 16) (by kernel_rfl) (by kernel_rfl) (by kernel_rfl)) SEs_nil (by kernel_rfl)) (by kernel_rfl))) (by kernel_rfl) (by kernel_rfl)) SSs_nil) SSs_nil) SSs_nil)) (by kernel_rfl)) (SSs_freeze (i := 8) (x := "rest") (by kernel_rfl) (by kernel_rfl) (SSs_freeze (i := 9) (x := "bearers") (by kernel_rfl) (by kernel_rfl) (SSs_cons (SS_expr (SE_appT (SE_attr (SE_var (i := 0) (by kernel_rfl) (by kernel_rfl) (by kernel_rfl))) (SE_tup (SEs_cons (SE_var (i := 4) (by kernel_rfl) (by kernel_rfl) (by kernel_rfl)) (SEs_cons (SE_var (i := 8) (by kernel_rfl) (by kernel_rfl) (by kernel_rfl)) (SEs_cons (SE_lst (SL_cat (SE_var (i := 12) (by kernel_rfl) (by kernel_rfl) (by kernel_rfl)) (SE_lst (SL_disp (SEs_cons (SE_tup (SEs_cons (SE_var (i := 14) (by kernel_rfl) (by kernel_rfl) (by kernel_rfl)) (SEs_cons (SE_var (i := 9) (by kernel_rfl) (by kernel_rfl) (by kernel_rfl)) SEs_nil (by kernel_rfl)) (by kernel_rfl))) SEs_nil (by kernel_rfl)))))) SEs_nil (by kernel_rfl)) (by kernel_rfl)) (by kernel_rfl))) (by kernel_rfl) (methA (by kernel_rfl) (by kernel_rfl) (by kernel_rfl))) (by kernel_rfl)) (SSs_cons (SS_ret (SE_var (i := 3) (by kernel_rfl) (by kernel_rfl) (by kernel_rfl))) SSs_nil))))))))))))))))))
theorem call_Count_step {X : Cx} {c : CA} (H : Has X c) {n : Nat} {d0 : D} {σ : Sg} {Q : D → Sg → Prop} (h : mExecs X n m_Count_step [.val d0, .unb, .unb, .unb, .unb, .unb, .unb, .unb, .unb, .unb, .unb, .unb, .unb, .unb, .unb, .unb, .unb, .unb] σ (fun fl xx σ' => (∀ b, σ b ≠ none → σ' b ≠ none) ∧ Q (flD fl) σ')) :
    CallA X (n + 1) (.ref c.step) [d0] σ Q := call_at H.gnd H.Count_step_is (ScOk.of sc_Count_step) (ok_Count_step H) rfl h

theorem sc_Count_back : scOk c_Count_back n_Count_back ["self"] = true := by kernel_rfl
theorem ok_Count_back {X : Cx} {c : CA} (H : Has X c) {n : Nat} : SSs X n c_Count_back n_Count_back (fnBody (methAt P 26 2)) m_Count_back :=
  (SSs_cons (SS_if (ST_cmp rfl (SE_lenT H.gnd (SE_attr (SE_var (i := 0) (by kernel_rfl) (by kernel_rfl) (by kernel_rfl))) (by kernel_rfl) (by kernel_rfl)) SE_int (by kernel_rfl)) (SSs_cons (SS_ret SE_bool) SSs_nil) SSs_nil) (SSs_cons (SS_expr (SE_popT (SE_attr (SE_var (i := 0) (by kernel_rfl) (by kernel_rfl) (by kernel_rfl))) (methA (by kernel_rfl) (by kernel_rfl) (by kernel_rfl))) (by kernel_rfl)) (SSs_cons (SS_ret SE_bool) SSs_nil)))
theorem call_Count_back {X : Cx} {c : CA} (H : Has X c) {n : Nat} {d0 : D} {σ : Sg} {Q : D → Sg → Prop} (h : mExecs X n m_Count_back [.val d0] σ (fun fl xx σ' => (∀ b, σ b ≠ none → σ' b ≠ none) ∧ Q (flD fl) σ')) :
    CallA X (n + 1) (.ref c.back) [d0] σ Q := call_at H.gnd H.Count_back_is (ScOk.of sc_Count_back) (ok_Count_back H) rfl h

theorem sc_Count_standing : scOk c_Count_standing n_Count_standing ["self"] = true := by kernel_rfl
theorem ok_Count_standing {X : Cx} {c : CA} (H : Has X c) {n : Nat} : SSs X n c_Count_standing n_Count_standing (fnBody (methAt P 26 3)) m_Count_standing :=
  (SSs_cons (SS_ret (SE_lst (SL_list H.gnd (SE_idx (SE_last (SE_attr (SE_var (i := 0) (by kernel_rfl) (by kernel_rfl) (by kernel_rfl)))) SE_int (by kernel_rfl)) (by kernel_rfl) (by kernel_rfl)))) SSs_nil)
theorem call_Count_standing {X : Cx} {c : CA} (H : Has X c) {n : Nat} {d0 : D} {σ : Sg} {Q : D → Sg → Prop} (h : mExecs X n m_Count_standing [.val d0] σ (fun fl xx σ' => (∀ b, σ b ≠ none → σ' b ≠ none) ∧ Q (flD fl) σ')) :
    CallA X (n + 1) (.ref c.standing) [d0] σ Q := call_at H.gnd H.Count_standing_is (ScOk.of sc_Count_standing) (ok_Count_standing H) rfl h

theorem sc_Count_places : scOk c_Count_places n_Count_places ["self"] = true := by kernel_rfl
theorem ok_Count_places {X : Cx} {c : CA} (H : Has X c) {n : Nat} : SSs X n c_Count_places n_Count_places (fnBody (methAt P 26 4)) m_Count_places :=
  (SSs_cons (SS_asg (i := 1) (by kernel_rfl) (by kernel_rfl) (SE_idx (SE_last (SE_attr (SE_var (i := 0) (by kernel_rfl) (by kernel_rfl) (by kernel_rfl)))) SE_int (by kernel_rfl)) (by kernel_rfl)) (SSs_cons (SS_ret (SE_lst (SL_comp (comp_of (by kernel_rfl)) (tgtL_of (by kernel_rfl)) (SI_seq (SE_attr (SE_var (i := 0) (by kernel_rfl) (by kernel_rfl) (by kernel_rfl)))) (SE_call H.gnd H.place_of_is.isFn (SEs_cons (SE_var (i := 2) (by kernel_rfl) (by kernel_rfl) (by kernel_rfl)) (SEs_cons (SE_var (i := 1) (by kernel_rfl) (by kernel_rfl) (by kernel_rfl)) SEs_nil (by kernel_rfl)) (by kernel_rfl)) (by kernel_rfl) (by kernel_rfl) (by kernel_rfl)) CondOk.nil (by kernel_rfl)))) SSs_nil))
theorem call_Count_places {X : Cx} {c : CA} (H : Has X c) {n : Nat} {d0 : D} {σ : Sg} {Q : D → Sg → Prop} (h : mExecs X n m_Count_places [.val d0, .unb, .unb] σ (fun fl xx σ' => (∀ b, σ b ≠ none → σ' b ≠ none) ∧ Q (flD fl) σ')) :
    CallA X (n + 1) (.ref c.places) [d0] σ Q := call_at H.gnd H.Count_places_is (ScOk.of sc_Count_places) (ok_Count_places H) rfl h

theorem sc_Count_left : scOk c_Count_left n_Count_left ["self"] = true := by kernel_rfl
theorem ok_Count_left {X : Cx} {c : CA} (H : Has X c) {n : Nat} : SSs X n c_Count_left n_Count_left (fnBody (methAt P 26 5)) m_Count_left :=
  (SSs_cons (SS_ret (SE_lst (SL_list H.gnd (SE_idx (SE_last (SE_attr (SE_var (i := 0) (by kernel_rfl) (by kernel_rfl) (by kernel_rfl)))) SE_int (by kernel_rfl)) (by kernel_rfl) (by kernel_rfl)))) SSs_nil)
theorem call_Count_left {X : Cx} {c : CA} (H : Has X c) {n : Nat} {d0 : D} {σ : Sg} {Q : D → Sg → Prop} (h : mExecs X n m_Count_left [.val d0] σ (fun fl xx σ' => (∀ b, σ b ≠ none → σ' b ≠ none) ∧ Q (flD fl) σ')) :
    CallA X (n + 1) (.ref c.left) [d0] σ Q := call_at H.gnd H.Count_left_is (ScOk.of sc_Count_left) (ok_Count_left H) rfl h

theorem sc_Count_seats : scOk c_Count_seats n_Count_seats ["self"] = true := by kernel_rfl
theorem ok_Count_seats {X : Cx} {c : CA} (H : Has X c) {n : Nat} : SSs X n c_Count_seats n_Count_seats (fnBody (methAt P 26 6)) m_Count_seats :=
  (SSs_cons (SS_ret (SE_lst (SL_comp (comp_of (by kernel_rfl)) (tgtL_of (by kernel_rfl)) (SI_seqT (by decide) (SE_idx (SE_last (SE_attr (SE_var (i := 0) (by kernel_rfl) (by kernel_rfl) (by kernel_rfl)))) SE_int (by kernel_rfl))) (SE_tup (SEs_cons (SE_var (i := 1) (by kernel_rfl) (by kernel_rfl) (by kernel_rfl)) (SEs_cons (SE_lst (SL_list H.gnd (SE_var (i := 2) (by kernel_rfl) (by kernel_rfl) (by kernel_rfl)) (by kernel_rfl) (by kernel_rfl))) SEs_nil (by kernel_rfl)) (by kernel_rfl))) CondOk.nil (by kernel_rfl)))) SSs_nil)
theorem call_Count_seats {X : Cx} {c : CA} (H : Has X c) {n : Nat} {d0 : D} {σ : Sg} {Q : D → Sg → Prop} (h : mExecs X n m_Count_seats [.val d0, .unb, .unb] σ (fun fl xx σ' => (∀ b, σ b ≠ none → σ' b ≠ none) ∧ Q (flD fl) σ')) :
    CallA X (n + 1) (.ref c.seats) [d0] σ Q := call_at H.gnd H.Count_seats_is (ScOk.of sc_Count_seats) (ok_Count_seats H) rfl h

theorem sc_law_cell : scOk c_law_cell n_law_cell ["_law_script", "_law_k"] = true := by kernel_rfl
theorem ok_law_cell {X : Cx} {c : CA} (H : Has X c) {n : Nat} : SSs X n c_law_cell n_law_cell (fnBody (stmtAt P 28)) m_law_cell :=
  (SSs_cons (SS_if (ST_cmp rfl (SE_var (i := 1) (by kernel_rfl) (by kernel_rfl) (by kernel_rfl)) (SE_len H.gnd (SE_var (i := 0) (by kernel_rfl) (by kernel_rfl) (by kernel_rfl)) (by kernel_rfl) (by kernel_rfl)) (by kernel_rfl)) (SSs_cons (SS_ret (SE_idx (SE_var (i := 0) (by kernel_rfl) (by kernel_rfl) (by kernel_rfl)) (SE_var (i := 1) (by kernel_rfl) (by kernel_rfl) (by kernel_rfl)) (by kernel_rfl))) SSs_nil) SSs_nil) (SSs_cons (SS_asg (i := 2) (by kernel_rfl) (by kernel_rfl) (SE_bin rfl (SE_bin rfl (SE_var (i := 1) (by kernel_rfl) (by kernel_rfl) (by kernel_rfl)) SE_int) SE_int) (by kernel_rfl)) (SSs_cons (SS_if (ST_cmp rfl (SE_len H.gnd (SE_var (i := 0) (by kernel_rfl) (by kernel_rfl) (by kernel_rfl)) (by kernel_rfl) (by kernel_rfl)) SE_int (by kernel_rfl)) (SSs_cons (SS_asg (i := 2) (by kernel_rfl) (by kernel_rfl) (SE_bin rfl (SE_bin rfl (SE_bin rfl (SE_idx (SE_var (i := 0) (by kernel_rfl) (by kernel_rfl) (by kernel_rfl)) (SE_bin rfl (SE_bin rfl (SE_var (i := 1) (by kernel_rfl) (by kernel_rfl) (by kernel_rfl)) SE_int) (SE_len H.gnd (SE_var (i := 0) (by kernel_rfl) (by kernel_rfl) (by kernel_rfl)) (by kernel_rfl) (by kernel_rfl))) (by kernel_rfl)) SE_int) (SE_bin rfl (SE_var (i := 1) (by kernel_rfl) (by kernel_rfl) (by kernel_rfl)) SE_int)) SE_int) (by kernel_rfl)) SSs_nil) SSs_nil) (SSs_cons (SS_ret (SE_bin rfl (SE_bin rfl (SE_var (i := 2) (by kernel_rfl) (by kernel_rfl) (by kernel_rfl)) (SE_var (i := 2) (by kernel_rfl) (by kernel_rfl) (by kernel_rfl))) SE_int)) SSs_nil))))
theorem call_law_cell {X : Cx} {c : CA} (H : Has X c) {n : Nat} {d0 d1 : D} {σ : Sg} {Q : D → Sg → Prop} (h : mExecs X n m_law_cell [.val d0, .val d1, .unb] σ (fun fl xx σ' => (∀ b, σ b ≠ none → σ' b ≠ none) ∧ Q (flD fl) σ')) :
    CallSem X (n + 1) "_law_cell" [d0, d1] σ Q := call_intro H.gnd (sq_law_cell ▸ bq_law_cell ▸ H.law_cell_is) (ScOk.of sc_law_cell) (ok_law_cell H) rfl h

theorem sc_law_whole : scOk c_law_whole n_law_whole ["_law_found"] = true := by kernel_rfl
theorem ok_law_whole {X : Cx} {c : CA} (H : Has X c) {n : Nat} : SSs X n c_law_whole n_law_whole (fnBody (stmtAt P 29)) m_law_whole :=
  (SSs_cons (SS_ret (SE_and (SE_isint H.gnd (SE_var (i := 0) (by kernel_rfl) (by kernel_rfl) (by kernel_rfl)) (by kernel_rfl) (by kernel_rfl) (by kernel_rfl)) (SE_one (SE_not (SE_isbool H.gnd (SE_var (i := 0) (by kernel_rfl) (by kernel_rfl) (by kernel_rfl)) (by kernel_rfl) (by kernel_rfl) (by kernel_rfl)))))) SSs_nil)
theorem call_law_whole {X : Cx} {c : CA} (H : Has X c) {n : Nat} {d0 : D} {σ : Sg} {Q : D → Sg → Prop} (h : mExecs X n m_law_whole [.val d0] σ (fun fl xx σ' => (∀ b, σ b ≠ none → σ' b ≠ none) ∧ Q (flD fl) σ')) :
    CallSem X (n + 1) "_law_whole" [d0] σ Q := call_intro H.gnd (sq_law_whole ▸ bq_law_whole ▸ H.law_whole_is) (ScOk.of sc_law_whole) (ok_law_whole H) rfl h

theorem sc_law_row : scOk c_law_row n_law_row ["_law_cell_here", "_law_candidates_here"] = true := by kernel_rfl
theorem ok_law_row {X : Cx} {c : CA} (H : Has X c) {n : Nat} : SSs X n c_law_row n_law_row (fnBody (stmtAt P 30)) m_law_row :=
  (SSs_cons (SS_asgM (i := 2) (by kernel_rfl) (by kernel_rfl) (SL_listRange H.gnd (SE_var (i := 1) (by kernel_rfl) (by kernel_rfl) (by kernel_rfl)) (by kernel_rfl) (by kernel_rfl) (by kernel_rfl)) (by kernel_rfl)) (SSs_cons (SS_asg (i := 3) (by kernel_rfl) (by kernel_rfl) (SE_bin rfl SE_int (SE_bin rfl (SE_var (i := 0) (by kernel_rfl) (by kernel_rfl) (by kernel_rfl)) SE_int)) (by kernel_rfl)) (SSs_cons (SS_asgM (i := 4) (by kernel_rfl) (by kernel_rfl) (SL_disp SEs_nil) (by kernel_rfl)) (SSs_cons (SS_for (tgt_of (by kernel_rfl)) (SI_range H.gnd (SE_bin rfl (SE_var (i := 3) (by kernel_rfl) (by kernel_rfl) (by kernel_rfl)) (SE_bin rfl (SE_var (i := 1) (by kernel_rfl) (by kernel_rfl) (by kernel_rfl)) SE_int)) (by kernel_rfl) (by kernel_rfl)) (SSs_cons (SS_asg (i := 3) (by kernel_rfl) (by kernel_rfl) (SE_bin rfl (SE_bin rfl (SE_bin rfl (SE_var (i := 3) (by kernel_rfl) (by kernel_rfl) (by kernel_rfl)) SE_int) SE_int) SE_int) (by kernel_rfl)) (SSs_cons (SS_if (ST_borrow (by kernel_rfl) (ST_cmp rfl (SE_var (i := 2) (by kernel_rfl) (by kernel_rfl) (by kernel_rfl)) (SE_lst (SL_disp SEs_nil)) (by kernel_rfl))) (SSs_cons (SS_appPop (i := 4) (j := 2) (by kernel_rfl) (by kernel_rfl) (by kernel_rfl) (by kernel_rfl) (by kernel_rfl) (by kernel_rfl) (SE_borrow (by kernel_rfl) (SE_bin rfl (SE_bin rfl (SE_var (i := 3) (by kernel_rfl) (by kernel_rfl) (by kernel_rfl)) SE_int) (SE_len H.gnd (SE_var (i := 2) (by kernel_rfl) (by kernel_rfl) (by kernel_rfl)) (by kernel_rfl) (by kernel_rfl)))) (by kernel_rfl) (by kernel_rfl) (by kernel_rfl)) SSs_nil) SSs_nil) SSs_nil)) (by kernel_rfl)) (SSs_freeze (i := 4) (x := "_law_row_here") (by kernel_rfl) (by kernel_rfl) (SSs_cons (SS_ret (SE_var (i := 4) (by kernel_rfl) (by kernel_rfl) (by kernel_rfl))) SSs_nil))))))
theorem call_law_row {X : Cx} {c : CA} (H : Has X c) {n : Nat} {d0 d1 : D} {σ : Sg} {Q : D → Sg → Prop} (h : mExecs X n m_law_row [.val d0, .val d1, .unb, .unb, .unb, .unb] σ (fun fl xx σ' => (∀ b, σ b ≠ none → σ' b ≠ none) ∧ Q (flD fl) σ')) :
    CallSem X (n + 1) "_law_row" [d0, d1] σ Q := call_intro H.gnd (sq_law_row ▸ bq_law_row ▸ H.law_row_is) (ScOk.of sc_law_row) (ok_law_row H) rfl h

theorem sc_law_weight : scOk c_law_weight n_law_weight ["_law_cell_here", "_law_kind"] = true := by kernel_rfl
theorem ok_law_weight {X : Cx} {c : CA} (H : Has X c) {n : Nat} : SSs X n c_law_weight n_law_weight (fnBody (stmtAt P 31)) m_law_weight :=
  (SSs_cons (SS_ret (SE_bin rfl SE_int (SE_bin rfl (SE_var (i := 0) (by kernel_rfl) (by kernel_rfl) (by kernel_rfl)) (SE_idx (SE_lst (SL_disp (SEs_cons SE_int (SEs_cons SE_int (SEs_cons SE_int (SEs_cons SE_int SEs_nil (by kernel_rfl)) (by kernel_rfl)) (by kernel_rfl)) (by kernel_rfl)))) (SE_var (i := 1) (by kernel_rfl) (by kernel_rfl) (by kernel_rfl)) (by kernel_rfl))))) SSs_nil)
theorem call_law_weight {X : Cx} {c : CA} (H : Has X c) {n : Nat} {d0 d1 : D} {σ : Sg} {Q : D → Sg → Prop} (h : mExecs X n m_law_weight [.val d0, .val d1] σ (fun fl xx σ' => (∀ b, σ b ≠ none → σ' b ≠ none) ∧ Q (flD fl) σ')) :
    CallSem X (n + 1) "_law_weight" [d0, d1] σ Q := call_intro H.gnd (sq_law_weight ▸ bq_law_weight ▸ H.law_weight_is) (ScOk.of sc_law_weight) (ok_law_weight H) rfl h

theorem sc_law_candidates : scOk c_law_candidates n_law_candidates ["_law_script"] = true := by kernel_rfl
theorem ok_law_candidates {X : Cx} {c : CA} (H : Has X c) {n : Nat} : SSs X n c_law_candidates n_law_candidates (fnBody (stmtAt P 32)) m_law_candidates :=
  (SSs_cons (SS_if (ST_cmp rfl (SE_bin rfl (SE_bin rfl (SE_call H.gnd H.law_cell_is.isFn (SEs_cons (SE_var (i := 0) (by kernel_rfl) (by kernel_rfl) (by kernel_rfl)) (SEs_cons SE_int SEs_nil (by kernel_rfl)) (by kernel_rfl)) (by kernel_rfl) (by kernel_rfl) (by kernel_rfl)) SE_int) SE_int) SE_int (by kernel_rfl)) (SSs_cons (SS_ret (SE_bin rfl SE_int (SE_bin rfl (SE_bin rfl (SE_call H.gnd H.law_cell_is.isFn (SEs_cons (SE_var (i := 0) (by kernel_rfl) (by kernel_rfl) (by kernel_rfl)) (SEs_cons SE_int SEs_nil (by kernel_rfl)) (by kernel_rfl)) (by kernel_rfl) (by kernel_rfl) (by kernel_rfl)) SE_int) SE_int))) SSs_nil) SSs_nil) (SSs_cons (SS_ret (SE_bin rfl SE_int (SE_bin rfl (SE_call H.gnd H.law_cell_is.isFn (SEs_cons (SE_var (i := 0) (by kernel_rfl) (by kernel_rfl) (by kernel_rfl)) (SEs_cons SE_int SEs_nil (by kernel_rfl)) (by kernel_rfl)) (by kernel_rfl) (by kernel_rfl) (by kernel_rfl)) SE_int))) SSs_nil))
theorem call_law_candidates {X : Cx} {c : CA} (H : Has X c) {n : Nat} {d0 : D} {σ : Sg} {Q : D → Sg → Prop} (h : mExecs X n m_law_candidates [.val d0] σ (fun fl xx σ' => (∀ b, σ b ≠ none → σ' b ≠ none) ∧ Q (flD fl) σ')) :
    CallSem X (n + 1) "_law_candidates" [d0] σ Q := call_intro H.gnd (sq_law_candidates ▸ bq_law_candidates ▸ H.law_candidates_is) (ScOk.of sc_law_candidates) (ok_law_candidates H) rfl h

theorem sc_law_ballots : scOk c_law_ballots n_law_ballots ["_law_script", "_law_candidates_here"] = true := by kernel_rfl
theorem ok_law_ballots {X : Cx} {c : CA} (H : Has X c) {n : Nat} : SSs X n c_law_ballots n_law_ballots (fnBody (stmtAt P 33)) m_law_ballots :=
  (SSs_cons (SS_asg (i := 2) (by kernel_rfl) (by kernel_rfl) (SE_bin rfl (SE_call H.gnd H.law_cell_is.isFn (SEs_cons (SE_var (i := 0) (by kernel_rfl) (by kernel_rfl) (by kernel_rfl)) (SEs_cons SE_int SEs_nil (by kernel_rfl)) (by kernel_rfl)) (by kernel_rfl) (by kernel_rfl) (by kernel_rfl)) SE_int) (by kernel_rfl)) (SSs_cons (SS_if (ST_cmp rfl (SE_bin rfl (SE_bin rfl (SE_call H.gnd H.law_cell_is.isFn (SEs_cons (SE_var (i := 0) (by kernel_rfl) (by kernel_rfl) (by kernel_rfl)) (SEs_cons SE_int SEs_nil (by kernel_rfl)) (by kernel_rfl)) (by kernel_rfl) (by kernel_rfl) (by kernel_rfl)) SE_int) SE_int) SE_int (by kernel_rfl)) (SSs_cons (SS_asg (i := 2) (by kernel_rfl) (by kernel_rfl) (SE_bin rfl (SE_bin rfl (SE_call H.gnd H.law_cell_is.isFn (SEs_cons (SE_var (i := 0) (by kernel_rfl) (by kernel_rfl) (by kernel_rfl)) (SEs_cons SE_int SEs_nil (by kernel_rfl)) (by kernel_rfl)) (by kernel_rfl) (by kernel_rfl) (by kernel_rfl)) SE_int) SE_int) (by kernel_rfl)) SSs_nil) SSs_nil) (SSs_cons (SS_asg (i := 3) (by kernel_rfl) (by kernel_rfl) (SE_bin rfl (SE_call H.gnd H.law_cell_is.isFn (SEs_cons (SE_var (i := 0) (by kernel_rfl) (by kernel_rfl) (by kernel_rfl)) (SEs_cons SE_int SEs_nil (by kernel_rfl)) (by kernel_rfl)) (by kernel_rfl) (by kernel_rfl) (by kernel_rfl)) SE_int) (by kernel_rfl)) (SSs_cons (SS_asgM (i := 4) (by kernel_rfl) (by kernel_rfl) (SL_disp SEs_nil) (by kernel_rfl)) (SSs_cons (SS_for (tgt_of (by kernel_rfl)) (SI_range H.gnd (SE_var (i := 2) (by kernel_rfl) (by kernel_rfl) (by kernel_rfl)) (by kernel_rfl) (by kernel_rfl)) (SSs_cons (SS_asg (i := 6) (by kernel_rfl) (by kernel_rfl) (SE_call H.gnd H.law_weight_is.isFn (SEs_cons (SE_call H.gnd H.law_cell_is.isFn (SEs_cons (SE_var (i := 0) (by kernel_rfl) (by kernel_rfl) (by kernel_rfl)) (SEs_cons (SE_bin rfl SE_int (SE_bin rfl SE_int (SE_var (i := 5) (by kernel_rfl) (by kernel_rfl) (by kernel_rfl)))) SEs_nil (by kernel_rfl)) (by kernel_rfl)) (by kernel_rfl) (by kernel_rfl) (by kernel_rfl)) (SEs_cons (SE_var (i := 3) (by kernel_rfl) (by kernel_rfl) (by kernel_rfl)) SEs_nil (by kernel_rfl)) (by kernel_rfl)) (by kernel_rfl) (by kernel_rfl) (by kernel_rfl)) (by kernel_rfl)) (SSs_cons (SS_asg (i := 7) (by kernel_rfl) (by kernel_rfl) (SE_call H.gnd H.law_row_is.isFn (SEs_cons (SE_call H.gnd H.law_cell_is.isFn (SEs_cons (SE_var (i := 0) (by kernel_rfl) (by kernel_rfl) (by kernel_rfl)) (SEs_cons (SE_bin rfl SE_int (SE_bin rfl SE_int (SE_var (i := 5) (by kernel_rfl) (by kernel_rfl) (by kernel_rfl)))) SEs_nil (by kernel_rfl)) (by kernel_rfl)) (by kernel_rfl) (by kernel_rfl) (by kernel_rfl)) (SEs_cons (SE_var (i := 1) (by kernel_rfl) (by kernel_rfl) (by kernel_rfl)) SEs_nil (by kernel_rfl)) (by kernel_rfl)) (by kernel_rfl) (by kernel_rfl) (by kernel_rfl)) (by kernel_rfl)) (SSs_cons (SS_if (ST_borrow (by kernel_rfl) (ST_and (ST_cmp rfl (SE_bin rfl (SE_call H.gnd H.law_cell_is.isFn (SEs_cons (SE_var (i := 0) (by kernel_rfl) (by kernel_rfl) (by kernel_rfl)) (SEs_cons SE_int SEs_nil (by kernel_rfl)) (by kernel_rfl)) (by kernel_rfl) (by kernel_rfl) (by kernel_rfl)) SE_int) SE_int (by kernel_rfl)) (ST_and (ST_cmp rfl (SE_len H.gnd (SE_var (i := 4) (by kernel_rfl) (by kernel_rfl) (by kernel_rfl)) (by kernel_rfl) (by kernel_rfl)) SE_int (by kernel_rfl)) (ST_one_and (ST_cmp rfl (SE_len H.gnd (SE_var (i := 7) (by kernel_rfl) (by kernel_rfl) (by kernel_rfl)) (by kernel_rfl) (by kernel_rfl)) SE_int (by kernel_rfl)))))) (SSs_cons (SS_asgM (i := 7) (by kernel_rfl) (by kernel_rfl) (SL_borrow (by kernel_rfl) (SL_cat (SE_lst (SL_upto (SE_idx (SE_idx (SE_var (i := 4) (by kernel_rfl) (by kernel_rfl) (by kernel_rfl)) SE_int (by kernel_rfl)) SE_int (by kernel_rfl)) SE_int)) (SE_lst (SL_comp (comp_of (by kernel_rfl)) (tgtL_of (by kernel_rfl)) (SI_seq (SE_var (i := 7) (by kernel_rfl) (by kernel_rfl) (by kernel_rfl))) (SE_var (i := 8) (by kernel_rfl) (by kernel_rfl) (by kernel_rfl)) (CondOk.one (ST_cmp rfl (SE_lst (SL_disp (SEs_cons (SE_var (i := 8) (by kernel_rfl) (by kernel_rfl) (by kernel_rfl)) SEs_nil (by kernel_rfl)))) (SE_lst (SL_upto (SE_idx (SE_idx (SE_var (i := 4) (by kernel_rfl) (by kernel_rfl) (by kernel_rfl)) SE_int (by kernel_rfl)) SE_int (by kernel_rfl)) SE_int)) (by kernel_rfl))) (by kernel_rfl))))) (by kernel_rfl)) (SSs_freeze (i := 7) (x := "_law_row_here") (by kernel_rfl) (by kernel_rfl) SSs_nil)) SSs_nil) (SSs_cons (SS_app (i := 4) (by kernel_rfl) (by kernel_rfl) (by kernel_rfl) (SE_tup (SEs_cons (SE_var (i := 6) (by kernel_rfl) (by kernel_rfl) (by kernel_rfl)) (SEs_cons (SE_var (i := 7) (by kernel_rfl) (by kernel_rfl) (by kernel_rfl)) SEs_nil (by kernel_rfl)) (by kernel_rfl))) (by kernel_rfl) (by kernel_rfl)) SSs_nil)))) (by kernel_rfl)) (SSs_freeze (i := 4) (x := "_law_ballots_here") (by kernel_rfl) (by kernel_rfl) (SSs_cons (SS_ret (SE_var (i := 4) (by kernel_rfl) (by kernel_rfl) (by kernel_rfl))) SSs_nil)))))))
theorem call_law_ballots {X : Cx} {c : CA} (H : Has X c) {n : Nat} {d0 d1 : D} {σ : Sg} {Q : D → Sg → Prop} (h : mExecs X n m_law_ballots [.val d0, .val d1, .unb, .unb, .unb, .unb, .unb, .unb, .unb] σ (fun fl xx σ' => (∀ b, σ b ≠ none → σ' b ≠ none) ∧ Q (flD fl) σ')) :
    CallSem X (n + 1) "_law_ballots" [d0, d1] σ Q := call_intro H.gnd (sq_law_ballots ▸ bq_law_ballots ▸ H.law_ballots_is) (ScOk.of sc_law_ballots) (ok_law_ballots H) rfl h

theorem sc_law_copy : scOk c_law_copy n_law_copy ["_law_ballots_here"] = true := by kernel_rfl
theorem ok_law_copy {X : Cx} {c : CA} (H : Has X c) {n : Nat} : SSs X n c_law_copy n_law_copy (fnBody (stmtAt P 34)) m_law_copy :=
  (SSs_cons (SS_ret (SE_track (SL_comp (comp_of (by kernel_rfl)) (tgtL_of (by kernel_rfl)) (SI_seqT (by decide) (SE_var (i := 0) (by kernel_rfl) (by kernel_rfl) (by kernel_rfl))) (SE_tup (SEs_cons (SE_var (i := 1) (by kernel_rfl) (by kernel_rfl) (by kernel_rfl)) (SEs_cons (SE_track (SL_list H.gnd (SE_var (i := 2) (by kernel_rfl) (by kernel_rfl) (by kernel_rfl)) (by kernel_rfl) (by kernel_rfl))) SEs_nil (by kernel_rfl)) (by kernel_rfl))) CondOk.nil (by kernel_rfl)))) SSs_nil)
theorem call_law_copy {X : Cx} {c : CA} (H : Has X c) {n : Nat} {d0 : D} {σ : Sg} {Q : D → Sg → Prop} (h : mExecs X n m_law_copy [.val d0, .unb, .unb] σ (fun fl xx σ' => (∀ b, σ b ≠ none → σ' b ≠ none) ∧ Q (flD fl) σ')) :
    CallSem X (n + 1) "_law_copy" [d0] σ Q := call_intro H.gnd (sq_law_copy ▸ bq_law_copy ▸ H.law_copy_is) (ScOk.of sc_law_copy) (ok_law_copy H) rfl h

theorem sc_law_place : scOk c_law_place n_law_place ["_law_row_here", "_law_standing"] = true := by kernel_rfl
theorem ok_law_place {X : Cx} {c : CA} (H : Has X c) {n : Nat} : SSs X n c_law_place n_law_place (fnBody (stmtAt P 35)) m_law_place :=
  (SSs_cons (SS_frozen (i := 2) (x := "_law_found") (by kernel_rfl) (by kernel_rfl) (SS_asgMC (i := 2) (by kernel_rfl) (by kernel_rfl) (comp_of (by kernel_rfl)) (tgtL_of (by kernel_rfl)) (SI_seq (SE_var (i := 0) (by kernel_rfl) (by kernel_rfl) (by kernel_rfl))) (SE_var (i := 3) (by kernel_rfl) (by kernel_rfl) (by kernel_rfl)) (CondOk.one (ST_cmp rfl (SE_var (i := 3) (by kernel_rfl) (by kernel_rfl) (by kernel_rfl)) (SE_var (i := 1) (by kernel_rfl) (by kernel_rfl) (by kernel_rfl)) (by kernel_rfl))) (by kernel_rfl))) (SSs_cons (SS_if (ST_cmp rfl (SE_var (i := 2) (by kernel_rfl) (by kernel_rfl) (by kernel_rfl)) (SE_lst (SL_disp SEs_nil)) (by kernel_rfl)) (SSs_cons (SS_ret SE_none) SSs_nil) SSs_nil) (SSs_cons (SS_ret (SE_idx (SE_var (i := 2) (by kernel_rfl) (by kernel_rfl) (by kernel_rfl)) SE_int (by kernel_rfl))) SSs_nil)))
theorem call_law_place {X : Cx} {c : CA} (H : Has X c) {n : Nat} {d0 d1 : D} {σ : Sg} {Q : D → Sg → Prop} (h : mExecs X n m_law_place [.val d0, .val d1, .unb, .unb] σ (fun fl xx σ' => (∀ b, σ b ≠ none → σ' b ≠ none) ∧ Q (flD fl) σ')) :
    CallSem X (n + 1) "_law_place" [d0, d1] σ Q := call_intro H.gnd (sq_law_place ▸ bq_law_place ▸ H.law_place_is) (ScOk.of sc_law_place) (ok_law_place H) rfl h

theorem sc_law_gather : scOk c_law_gather n_law_gather ["_law_candidate", "_law_places", "_law_left"] = true := by kernel_rfl
theorem ok_law_gather {X : Cx} {c : CA} (H : Has X c) {n : Nat} : SSs X n c_law_gather n_law_gather (fnBody (stmtAt P 36)) m_law_gather :=
  (SSs_cons (SS_asg (i := 3) (by kernel_rfl) (by kernel_rfl) SE_int (by kernel_rfl)) (SSs_cons (SS_for (tgt_of (by kernel_rfl)) (SI_range H.gnd (SE_len H.gnd (SE_var (i := 1) (by kernel_rfl) (by kernel_rfl) (by kernel_rfl)) (by kernel_rfl) (by kernel_rfl)) (by kernel_rfl) (by kernel_rfl)) (SSs_cons (SS_if (ST_cmp rfl (SE_idx (SE_var (i := 1) (by kernel_rfl) (by kernel_rfl) (by kernel_rfl)) (SE_var (i := 4) (by kernel_rfl) (by kernel_rfl) (by kernel_rfl)) (by kernel_rfl)) (SE_var (i := 0) (by kernel_rfl) (by kernel_rfl) (by kernel_rfl)) (by kernel_rfl)) (SSs_cons (SS_asg (i := 3) (by kernel_rfl) (by kernel_rfl) (SE_bin rfl (SE_var (i := 3) (by kernel_rfl) (by kernel_rfl) (by kernel_rfl)) (SE_idx (SE_var (i := 2) (by kernel_rfl) (by kernel_rfl) (by kernel_rfl)) (SE_var (i := 4) (by kernel_rfl) (by kernel_rfl) (by kernel_rfl)) (by kernel_rfl))) (by kernel_rfl)) SSs_nil) SSs_nil) SSs_nil) (by kernel_rfl)) (SSs_cons (SS_ret (SE_var (i := 3) (by kernel_rfl) (by kernel_rfl) (by kernel_rfl))) SSs_nil)))
theorem call_law_gather {X : Cx} {c : CA} (H : Has X c) {n : Nat} {d0 d1 d2 : D} {σ : Sg} {Q : D → Sg → Prop} (h : mExecs X n m_law_gather [.val d0, .val d1, .val d2, .unb, .unb] σ (fun fl xx σ' => (∀ b, σ b ≠ none → σ' b ≠ none) ∧ Q (flD fl) σ')) :
    CallSem X (n + 1) "_law_gather" [d0, d1, d2] σ Q := call_intro H.gnd (sq_law_gather ▸ bq_law_gather ▸ H.law_gather_is) (ScOk.of sc_law_gather) (ok_law_gather H) rfl h

theorem sc_law_parts : scOk c_law_parts n_law_parts ["_law_weights", "_law_some"] = true := by kernel_rfl
theorem ok_law_parts {X : Cx} {c : CA} (H : Has X c) {n : Nat} : SSs X n c_law_parts n_law_parts (fnBody (stmtAt P 37)) m_law_parts :=
  (SSs_cons (SS_asg (i := 2) (by kernel_rfl) (by kernel_rfl) SE_int (by kernel_rfl)) (SSs_cons (SS_for (tgt_of (by kernel_rfl)) (SI_seq (SE_var (i := 0) (by kernel_rfl) (by kernel_rfl) (by kernel_rfl))) (SSs_cons (SS_asg (i := 2) (by kernel_rfl) (by kernel_rfl) (SE_bin rfl (SE_var (i := 2) (by kernel_rfl) (by kernel_rfl) (by kernel_rfl)) (SE_var (i := 3) (by kernel_rfl) (by kernel_rfl) (by kernel_rfl))) (by kernel_rfl)) SSs_nil) (by kernel_rfl)) (SSs_cons (SS_asgM (i := 4) (by kernel_rfl) (by kernel_rfl) (SL_disp SEs_nil) (by kernel_rfl)) (SSs_cons (SS_for (tgt_of (by kernel_rfl)) (SI_range H.gnd (SE_len H.gnd (SE_var (i := 0) (by kernel_rfl) (by kernel_rfl) (by kernel_rfl)) (by kernel_rfl) (by kernel_rfl)) (by kernel_rfl) (by kernel_rfl)) (SSs_cons (SS_asg (i := 6) (by kernel_rfl) (by kernel_rfl) SE_int (by kernel_rfl)) (SSs_cons (SS_asg (i := 7) (by kernel_rfl) (by kernel_rfl) SE_int (by kernel_rfl)) (SSs_cons (SS_if (ST_cmp rfl (SE_var (i := 2) (by kernel_rfl) (by kernel_rfl) (by kernel_rfl)) SE_int (by kernel_rfl)) (SSs_cons (SS_asg (i := 6) (by kernel_rfl) (by kernel_rfl) (SE_bin rfl (SE_bin rfl (SE_sum H.gnd (SE_lst (SL_upto (SE_var (i := 0) (by kernel_rfl) (by kernel_rfl) (by kernel_rfl)) (SE_bin rfl (SE_var (i := 5) (by kernel_rfl) (by kernel_rfl) (by kernel_rfl)) SE_int))) (by kernel_rfl) (by kernel_rfl)) (SE_var (i := 1) (by kernel_rfl) (by kernel_rfl) (by kernel_rfl))) (SE_var (i := 2) (by kernel_rfl) (by kernel_rfl) (by kernel_rfl))) (by kernel_rfl)) (SSs_cons (SS_asg (i := 7) (by kernel_rfl) (by kernel_rfl) (SE_bin rfl (SE_bin rfl (SE_sum H.gnd (SE_lst (SL_upto (SE_var (i := 0) (by kernel_rfl) (by kernel_rfl) (by kernel_rfl)) (SE_var (i := 5) (by kernel_rfl) (by kernel_rfl) (by kernel_rfl)))) (by kernel_rfl) (by kernel_rfl)) (SE_var (i := 1) (by kernel_rfl) (by kernel_rfl) (by kernel_rfl))) (SE_var (i := 2) (by kernel_rfl) (by kernel_rfl) (by kernel_rfl))) (by kernel_rfl)) SSs_nil)) SSs_nil) (SSs_cons (SS_app (i := 4) (by kernel_rfl) (by kernel_rfl) (by kernel_rfl) (SE_bin rfl (SE_var (i := 6) (by kernel_rfl) (by kernel_rfl) (by kernel_rfl)) (SE_var (i := 7) (by kernel_rfl) (by kernel_rfl) (by kernel_rfl))) (by kernel_rfl) (by kernel_rfl)) SSs_nil)))) (by kernel_rfl)) (SSs_freeze (i := 4) (x := "_law_found") (by kernel_rfl) (by kernel_rfl) (SSs_cons (SS_ret (SE_var (i := 4) (by kernel_rfl) (by kernel_rfl) (by kernel_rfl))) SSs_nil))))))
theorem call_law_parts {X : Cx} {c : CA} (H : Has X c) {n : Nat} {d0 d1 : D} {σ : Sg} {Q : D → Sg → Prop} (h : mExecs X n m_law_parts [.val d0, .val d1, .unb, .unb, .unb, .unb, .unb, .unb] σ (fun fl xx σ' => (∀ b, σ b ≠ none → σ' b ≠ none) ∧ Q (flD fl) σ')) :
    CallSem X (n + 1) "_law_parts" [d0, d1] σ Q := call_intro H.gnd (sq_law_parts ▸ bq_law_parts ▸ H.law_parts_is) (ScOk.of sc_law_parts) (ok_law_parts H) rfl h

theorem sc_law_first : scOk c_law_first n_law_first ["_law_holdings", "_law_standing"] = true := by kernel_rfl
theorem ok_law_first {X : Cx} {c : CA} (H : Has X c) {n : Nat} : SSs X n c_law_first n_law_first (fnBody (stmtAt P 38)) m_law_first :=
  (SSs_cons (SS_asg (i := 2) (by kernel_rfl) (by kernel_rfl) (SE_max1 H.gnd (SE_lst (SL_comp (comp_of (by kernel_rfl)) (tgtL_of (by kernel_rfl)) (SI_seq (SE_var (i := 1) (by kernel_rfl) (by kernel_rfl) (by kernel_rfl))) (SE_dictAt (SE_var (i := 0) (by kernel_rfl) (by kernel_rfl) (by kernel_rfl)) (SE_var (i := 3) (by kernel_rfl) (by kernel_rfl) (by kernel_rfl)) (by kernel_rfl)) CondOk.nil (by kernel_rfl))) (by kernel_rfl) (by kernel_rfl)) (by kernel_rfl)) (SSs_cons (SS_ret (SE_min1 H.gnd (SE_lst (SL_comp (comp_of (by kernel_rfl)) (tgtL_of (by kernel_rfl)) (SI_seq (SE_var (i := 1) (by kernel_rfl) (by kernel_rfl) (by kernel_rfl))) (SE_var (i := 3) (by kernel_rfl) (by kernel_rfl) (by kernel_rfl)) (CondOk.one (ST_cmp rfl (SE_dictAt (SE_var (i := 0) (by kernel_rfl) (by kernel_rfl) (by kernel_rfl)) (SE_var (i := 3) (by kernel_rfl) (by kernel_rfl) (by kernel_rfl)) (by kernel_rfl)) (SE_var (i := 2) (by kernel_rfl) (by kernel_rfl) (by kernel_rfl)) (by kernel_rfl))) (by kernel_rfl))) (by kernel_rfl) (by kernel_rfl))) SSs_nil))
theorem call_law_first {X : Cx} {c : CA} (H : Has X c) {n : Nat} {d0 d1 : D} {σ : Sg} {Q : D → Sg → Prop} (h : mExecs X n m_law_first [.val d0, .val d1, .unb, .unb] σ (fun fl xx σ' => (∀ b, σ b ≠ none → σ' b ≠ none) ∧ Q (flD fl) σ')) :
    CallSem X (n + 1) "_law_first" [d0, d1] σ Q := call_intro H.gnd (sq_law_first ▸ bq_law_first ▸ H.law_first_is) (ScOk.of sc_law_first) (ok_law_first H) rfl h

theorem sc_law_last : scOk c_law_last n_law_last ["_law_holdings", "_law_standing"] = true := by kernel_rfl
theorem ok_law_last {X : Cx} {c : CA} (H : Has X c) {n : Nat} : SSs X n c_law_last n_law_last (fnBody (stmtAt P 39)) m_law_last :=
  (SSs_cons (SS_asg (i := 2) (by kernel_rfl) (by kernel_rfl) (SE_min1 H.gnd (SE_lst (SL_comp (comp_of (by kernel_rfl)) (tgtL_of (by kernel_rfl)) (SI_seq (SE_var (i := 1) (by kernel_rfl) (by kernel_rfl) (by kernel_rfl))) (SE_dictAt (SE_var (i := 0) (by kernel_rfl) (by kernel_rfl) (by kernel_rfl)) (SE_var (i := 3) (by kernel_rfl) (by kernel_rfl) (by kernel_rfl)) (by kernel_rfl)) CondOk.nil (by kernel_rfl))) (by kernel_rfl) (by kernel_rfl)) (by kernel_rfl)) (SSs_cons (SS_ret (SE_max1 H.gnd (SE_lst (SL_comp (comp_of (by kernel_rfl)) (tgtL_of (by kernel_rfl)) (SI_seq (SE_var (i := 1) (by kernel_rfl) (by kernel_rfl) (by kernel_rfl))) (SE_var (i := 3) (by kernel_rfl) (by kernel_rfl) (by kernel_rfl)) (CondOk.one (ST_cmp rfl (SE_dictAt (SE_var (i := 0) (by kernel_rfl) (by kernel_rfl) (by kernel_rfl)) (SE_var (i := 3) (by kernel_rfl) (by kernel_rfl) (by kernel_rfl)) (by kernel_rfl)) (SE_var (i := 2) (by kernel_rfl) (by kernel_rfl) (by kernel_rfl)) (by kernel_rfl))) (by kernel_rfl))) (by kernel_rfl) (by kernel_rfl))) SSs_nil))
theorem call_law_last {X : Cx} {c : CA} (H : Has X c) {n : Nat} {d0 d1 : D} {σ : Sg} {Q : D → Sg → Prop} (h : mExecs X n m_law_last [.val d0, .val d1, .unb, .unb] σ (fun fl xx σ' => (∀ b, σ b ≠ none → σ' b ≠ none) ∧ Q (flD fl) σ')) :
    CallSem X (n + 1) "_law_last" [d0, d1] σ Q := call_intro H.gnd (sq_law_last ▸ bq_law_last ▸ H.law_last_is) (ScOk.of sc_law_last) (ok_law_last H) rfl h

theorem sc_law_after : scOk c_law_after n_law_after ["_law_ballots_here", "_law_seats", "_law_enough", "_law_state"] = true := by kernel_rfl
theorem ok_law_after {X : Cx} {c : CA} (H : Has X c) {n : Nat} : SSs X n c_law_after n_law_after (fnBody (stmtAt P 40)) m_law_after :=
  (SSs_cons (SS_unpL (tgts_of (by kernel_rfl)) (SE_var (i := 3) (by kernel_rfl) (by kernel_rfl) (by kernel_rfl)) (by kernel_rfl) (by kernel_rfl)) (SSs_cons (SS_if (ST_cmp rfl (SE_len H.gnd (SE_var (i := 15) (by kernel_rfl) (by kernel_rfl) (by kernel_rfl)) (by kernel_rfl) (by kernel_rfl)) (SE_var (i := 1) (by kernel_rfl) (by kernel_rfl) (by kernel_rfl)) (by kernel_rfl)) (SSs_cons (SS_ret SE_none) SSs_nil) SSs_nil) (SSs_cons (SS_frozen (i := 4) (x := "_law_places") (by kernel_rfl) (by kernel_rfl) (SS_asgMC (i := 4) (by kernel_rfl) (by kernel_rfl) (comp_of (by kernel_rfl)) (tgtL_of (by kernel_rfl)) (SI_seqT (by decide) (SE_var (i := 0) (by kernel_rfl) (by kernel_rfl) (by kernel_rfl))) (SE_call H.gnd H.law_place_is.isFn (SEs_cons (SE_var (i := 18) (by kernel_rfl) (by kernel_rfl) (by kernel_rfl)) (SEs_cons (SE_var (i := 13) (by kernel_rfl) (by kernel_rfl) (by kernel_rfl)) SEs_nil (by kernel_rfl)) (by kernel_rfl)) (by kernel_rfl) (by kernel_rfl) (by kernel_rfl)) CondOk.nil (by kernel_rfl))) (SSs_cons (SS_asg (i := 5) (by kernel_rfl) (by kernel_rfl) SE_dict0 (by kernel_rfl)) (SSs_cons (SS_for (tgt_of (by kernel_rfl)) (SI_seq (SE_var (i := 13) (by kernel_rfl) (by kernel_rfl) (by kernel_rfl))) (SSs_cons (SS_setD (SE_var (i := 5) (by kernel_rfl) (by kernel_rfl) (by kernel_rfl)) (SE_var (i := 6) (by kernel_rfl) (by kernel_rfl) (by kernel_rfl)) (SE_call H.gnd H.law_gather_is.isFn (SEs_cons (SE_var (i := 6) (by kernel_rfl) (by kernel_rfl) (by kernel_rfl)) (SEs_cons (SE_var (i := 4) (by kernel_rfl) (by kernel_rfl) (by kernel_rfl)) (SEs_cons (SE_var (i := 14) (by kernel_rfl) (by kernel_rfl) (by kernel_rfl)) SEs_nil (by kernel_rfl)) (by kernel_rfl)) (by kernel_rfl)) (by kernel_rfl) (by kernel_rfl) (by kernel_rfl)) (by kernel_rfl)) SSs_nil) (by kernel_rfl)) (SSs_cons (SS_asg (i := 7) (by kernel_rfl) (by kernel_rfl) (SE_call H.gnd H.law_first_is.isFn (SEs_cons (SE_var (i := 5) (by kernel_rfl) (by kernel_rfl) (by kernel_rfl)) (SEs_cons (SE_var (i := 13) (by kernel_rfl) (by kernel_rfl) (by kernel_rfl)) SEs_nil (by kernel_rfl)) (by kernel_rfl)) (by kernel_rfl) (by kernel_rfl) (by kernel_rfl)) (by kernel_rfl)) (SSs_cons (SS_if (ST_and (ST_cmp rfl (SE_len H.gnd (SE_var (i := 13) (by kernel_rfl) (by kernel_rfl) (by kernel_rfl)) (by kernel_rfl) (by kernel_rfl)) (SE_bin rfl (SE_var (i := 1) (by kernel_rfl) (by kernel_rfl) (by kernel_rfl)) (SE_len H.gnd (SE_var (i := 15) (by kernel_rfl) (by kernel_rfl) (by kernel_rfl)) (by kernel_rfl) (by kernel_rfl))) (by kernel_rfl)) (ST_one_and (ST_cmp rfl (SE_dictAt (SE_var (i := 5) (by kernel_rfl) (by kernel_rfl) (by kernel_rfl)) (SE_var (i := 7) (by kernel_rfl) (by kernel_rfl) (by kernel_rfl)) (by kernel_rfl)) (SE_var (i := 2) (by kernel_rfl) (by kernel_rfl) (by kernel_rfl)) (by kernel_rfl)))) (SSs_cons (SS_asg (i := 16) (by kernel_rfl) (by kernel_rfl) (SE_call H.gnd H.law_last_is.isFn (SEs_cons (SE_var (i := 5) (by kernel_rfl) (by kernel_rfl) (by kernel_rfl)) (SEs_cons (SE_var (i := 13) (by kernel_rfl) (by kernel_rfl) (by kernel_rfl)) SEs_nil (by kernel_rfl)) (by kernel_rfl)) (by kernel_rfl) (by kernel_rfl) (by kernel_rfl)) (by kernel_rfl)) (SSs_cons (SS_ret (SE_lst (SL_disp (SEs_cons (SE_tup (SEs_cons SE_str (SEs_cons (SE_var (i := 16) (by kernel_rfl) (by kernel_rfl) (by kernel_rfl)) SEs_nil (by kernel_rfl)) (by kernel_rfl))) (SEs_cons (SE_lst (SL_disp (SEs_cons (SE_lst (SL_comp (comp_of (by kernel_rfl)) (tgtL_of (by kernel_rfl)) (SI_seq (SE_var (i := 13) (by kernel_rfl) (by kernel_rfl) (by kernel_rfl))) (SE_var (i := 6) (by kernel_rfl) (by kernel_rfl) (by kernel_rfl)) (CondOk.one (ST_cmp rfl (SE_var (i := 6) (by kernel_rfl) (by kernel_rfl) (by kernel_rfl)) (SE_var (i := 16) (by kernel_rfl) (by kernel_rfl) (by kernel_rfl)) (by kernel_rfl))) (by kernel_rfl))) (SEs_cons (SE_var (i := 14) (by kernel_rfl) (by kernel_rfl) (by kernel_rfl)) (SEs_cons (SE_var (i := 15) (by kernel_rfl) (by kernel_rfl) (by kernel_rfl)) SEs_nil (by kernel_rfl)) (by kernel_rfl)) (by kernel_rfl)))) SEs_nil (by kernel_rfl)) (by kernel_rfl))))) SSs_nil)) SSs_nil) (SSs_cons (SS_frozen (i := 8) (x := "_law_lying") (by kernel_rfl) (by kernel_rfl) (SS_asgMC (i := 8) (by kernel_rfl) (by kernel_rfl) (comp_of (by kernel_rfl)) (tgtL_of (by kernel_rfl)) (SI_range H.gnd (SE_len H.gnd (SE_var (i := 0) (by kernel_rfl) (by kernel_rfl) (by kernel_rfl)) (by kernel_rfl) (by kernel_rfl)) (by kernel_rfl) (by kernel_rfl)) (SE_var (i := 12) (by kernel_rfl) (by kernel_rfl) (by kernel_rfl)) (CondOk.one (ST_cmp rfl (SE_idx (SE_var (i := 4) (by kernel_rfl) (by kernel_rfl) (by kernel_rfl)) (SE_var (i := 12) (by kernel_rfl) (by kernel_rfl) (by kernel_rfl)) (by kernel_rfl)) (SE_var (i := 7) (by kernel_rfl) (by kernel_rfl) (by kernel_rfl)) (by kernel_rfl))) (by kernel_rfl))) (SSs_cons (SS_asg (i := 9) (by kernel_rfl) (by kernel_rfl) (SE_call H.gnd H.law_parts_is.isFn (SEs_cons (SE_lst (SL_comp (comp_of (by kernel_rfl)) (tgtL_of (by kernel_rfl)) (SI_seq (SE_var (i := 8) (by kernel_rfl) (by kernel_rfl) (by kernel_rfl))) (SE_idx (SE_var (i := 14) (by kernel_rfl) (by kernel_rfl) (by kernel_rfl)) (SE_var (i := 12) (by kernel_rfl) (by kernel_rfl) (by kernel_rfl)) (by kernel_rfl)) CondOk.nil (by kernel_rfl))) (SEs_cons (SE_min2 H.gnd (SE_var (i := 2) (by kernel_rfl) (by kernel_rfl) (by kernel_rfl)) (SE_dictAt (SE_var (i := 5) (by kernel_rfl) (by kernel_rfl) (by kernel_rfl)) (SE_var (i := 7) (by kernel_rfl) (by kernel_rfl) (by kernel_rfl)) (by kernel_rfl)) (by kernel_rfl) (by kernel_rfl) (by kernel_rfl)) SEs_nil (by kernel_rfl)) (by kernel_rfl)) (by kernel_rfl) (by kernel_rfl) (by kernel_rfl)) (by kernel_rfl)) (SSs_cons (SS_asgM (i := 10) (by kernel_rfl) (by kernel_rfl) (SL_list H.gnd (SE_var (i := 14) (by kernel_rfl) (by kernel_rfl) (by kernel_rfl)) (by kernel_rfl) (by kernel_rfl)) (by kernel_rfl)) (SSs_cons (SS_asgM (i := 11) (by kernel_rfl) (by kernel_rfl) (SL_disp SEs_nil) (by kernel_rfl)) (SSs_cons (SS_for (tgt_of (by kernel_rfl)) (SI_range H.gnd (SE_len H.gnd (SE_var (i := 8) (by kernel_rfl) (by kernel_rfl) (by kernel_rfl)) (by kernel_rfl) (by kernel_rfl)) (by kernel_rfl) (by kernel_rfl)) (SSs_cons (SS_setI (i := 10) (by kernel_rfl) (by kernel_rfl) (by kernel_rfl) (SE_bin rfl (SE_idxM (i := 10) (by kernel_rfl) (by kernel_rfl) (by kernel_rfl) (SE_idx (SE_var (i := 8) (by kernel_rfl) (by kernel_rfl) (by kernel_rfl)) (SE_var (i := 12) (by kernel_rfl) (by kernel_rfl) (by kernel_rfl)) (by kernel_rfl)) (by kernel_rfl)) (SE_idx (SE_var (i := 9) (by kernel_rfl) (by kernel_rfl) (by kernel_rfl)) (SE_var (i := 12) (by kernel_rfl) (by kernel_rfl) (by kernel_rfl)) (by kernel_rfl))) (SE_idx (SE_var (i := 8) (by kernel_rfl) (by kernel_rfl) (by kernel_rfl)) (SE_var (i := 12) (by kernel_rfl) (by kernel_rfl) (by kernel_rfl)) (by kernel_rfl)) (by kernel_rfl)) (SSs_cons (SS_if (ST_cmp rfl (SE_idx (SE_var (i := 9) (by kernel_rfl) (by kernel_rfl) (by kernel_rfl)) (SE_var (i := 12) (by kernel_rfl) (by kernel_rfl) (by kernel_rfl)) (by kernel_rfl)) SE_int (by kernel_rfl)) (SSs_cons (SS_app (i := 11) (by kernel_rfl) (by kernel_rfl) (by kernel_rfl) (SE_tup (SEs_cons (SE_idx (SE_var (i := 8) (by kernel_rfl) (by kernel_rfl) (by kernel_rfl)) (SE_var (i := 12) (by kernel_rfl) (by kernel_rfl) (by kernel_rfl)) (by kernel_rfl)) (SEs_cons (SE_idx (SE_var (i := 9) (by kernel_rfl) (by kernel_rfl) (by kernel_rfl)) (SE_var (i := 12) (by kernel_rfl) (by kernel_rfl) (by kernel_rfl)) (by kernel_rfl)) SEs_nil (by kernel_rfl)) (by kernel_rfl))) (by kernel_rfl) (by kernel_rfl)) SSs_nil) SSs_nil) SSs_nil)) (by kernel_rfl)) (SSs_freeze (i := 10) (x := "_law_more") (by kernel_rfl) (by kernel_rfl) (SSs_freeze (i := 11) (x := "_law_bearers") (by kernel_rfl) (by kernel_rfl) (SSs_cons (SS_ret (SE_lst (SL_disp (SEs_cons (SE_tup (SEs_cons SE_str (SEs_cons (SE_var (i := 7) (by kernel_rfl) (by kernel_rfl) (by kernel_rfl)) SEs_nil (by kernel_rfl)) (by kernel_rfl))) (SEs_cons (SE_lst (SL_disp (SEs_cons (SE_lst (SL_comp (comp_of (by kernel_rfl)) (tgtL_of (by kernel_rfl)) (SI_seq (SE_var (i := 13) (by kernel_rfl) (by kernel_rfl) (by kernel_rfl))) (SE_var (i := 6) (by kernel_rfl) (by kernel_rfl) (by kernel_rfl)) (CondOk.one (ST_cmp rfl (SE_var (i := 6) (by kernel_rfl) (by kernel_rfl) (by kernel_rfl)) (SE_var (i := 7) (by kernel_rfl) (by kernel_rfl) (by kernel_rfl)) (by kernel_rfl))) (by kernel_rfl))) (SEs_cons (SE_var (i := 10) (by kernel_rfl) (by kernel_rfl) (by kernel_rfl)) (SEs_cons (SE_lst (SL_cat (SE_var (i := 15) (by kernel_rfl) (by kernel_rfl) (by kernel_rfl)) (SE_lst (SL_disp (SEs_cons (SE_tup (SEs_cons (SE_var (i := 7) (by kernel_rfl) (by kernel_rfl) (by kernel_rfl)) (SEs_cons (SE_var (i := 11) (by kernel_rfl) (by kernel_rfl) (by kernel_rfl)) SEs_nil (by kernel_rfl)) (by kernel_rfl))) SEs_nil (by kernel_rfl)))))) SEs_nil (by kernel_rfl)) (by kernel_rfl)) (by kernel_rfl)))) SEs_nil (by kernel_rfl)) (by kernel_rfl))))) SSs_nil)))))))))))))))
theorem call_law_after {X : Cx} {c : CA} (H : Has X c) {n : Nat} {d0 d1 d2 d3 : D} {σ : Sg} {Q : D → Sg → Prop} (h : mExecs X n m_law_after [.val d0, .val d1, .val d2, .val d3, .unb, .unb, .unb, .unb, .unb, .unb, .unb, .unb, .unb, .unb, .unb, .unb, .unb, .unb, .unb] σ (fun fl xx σ' => (∀ b, σ b ≠ none → σ' b ≠ none) ∧ Q (flD fl) σ')) :
    CallSem X (n + 1) "_law_after" [d0, d1, d2, d3] σ Q := call_intro H.gnd (sq_law_after ▸ bq_law_after ▸ H.law_after_is) (ScOk.of sc_law_after) (ok_law_after H) rfl h

theorem sc_law_asked : scOk c_law_asked n_law_asked ["_law_count", "_law_which"] = true := by kernel_rfl
theorem ok_law_asked {X : Cx} {c : CA} (H : Has X c) {n : Nat} : SSs X n c_law_asked n_law_asked (fnBody (stmtAt P 41)) m_law_asked :=
  (SSs_cons (SS_if (ST_cmp rfl (SE_var (i := 1) (by kernel_rfl) (by kernel_rfl) (by kernel_rfl)) SE_int (by kernel_rfl)) (SSs_cons (SS_ret (SE_meth (SE_var (i := 0) (by kernel_rfl) (by kernel_rfl) (by kernel_rfl)) (by kernel_rfl))) SSs_nil) SSs_nil) (SSs_cons (SS_if (ST_cmp rfl (SE_var (i := 1) (by kernel_rfl) (by kernel_rfl) (by kernel_rfl)) SE_int (by kernel_rfl)) (SSs_cons (SS_ret (SE_meth (SE_var (i := 0) (by kernel_rfl) (by kernel_rfl) (by kernel_rfl)) (by kernel_rfl))) SSs_nil) SSs_nil) (SSs_cons (SS_if (ST_cmp rfl (SE_var (i := 1) (by kernel_rfl) (by kernel_rfl) (by kernel_rfl)) SE_int (by kernel_rfl)) (SSs_cons (SS_ret (SE_meth (SE_var (i := 0) (by kernel_rfl) (by kernel_rfl) (by kernel_rfl)) (by kernel_rfl))) SSs_nil) SSs_nil) (SSs_cons (SS_ret (SE_meth (SE_var (i := 0) (by kernel_rfl) (by kernel_rfl) (by kernel_rfl)) (by kernel_rfl))) SSs_nil))))
theorem call_law_asked {X : Cx} {c : CA} (H : Has X c) {n : Nat} {d0 d1 : D} {σ : Sg} {Q : D → Sg → Prop} (h : mExecs X n m_law_asked [.val d0, .val d1] σ (fun fl xx σ' => (∀ b, σ b ≠ none → σ' b ≠ none) ∧ Q (flD fl) σ')) :
    CallSem X (n + 1) "_law_asked" [d0, d1] σ Q := call_intro H.gnd (sq_law_asked ▸ bq_law_asked ▸ H.law_asked_is) (ScOk.of sc_law_asked) (ok_law_asked H) rfl h

theorem sc_law_stands : scOk c_law_stands n_law_stands ["_law_count", "_law_ballots_here", "_law_state", "_law_cell_here", "_law_kept"] = true := by kernel_rfl
theorem ok_law_stands {X : Cx} {c : CA} (H : Has X c) {n : Nat} : SSs X n c_law_stands n_law_stands (fnBody (stmtAt P 42)) m_law_stands :=
  (SSs_cons (SS_asg (i := 5) (by kernel_rfl) (by kernel_rfl) (SE_lst (SL_disp (SEs_cons (SE_idx (SE_var (i := 2) (by kernel_rfl) (by kernel_rfl) (by kernel_rfl)) SE_int (by kernel_rfl)) (SEs_cons (SE_lst (SL_comp (comp_of (by kernel_rfl)) (tgtL_of (by kernel_rfl)) (SI_seqT (by decide) (SE_var (i := 1) (by kernel_rfl) (by kernel_rfl) (by kernel_rfl))) (SE_call H.gnd H.law_place_is.isFn (SEs_cons (SE_var (i := 10) (by kernel_rfl) (by kernel_rfl) (by kernel_rfl)) (SEs_cons (SE_idx (SE_var (i := 2) (by kernel_rfl) (by kernel_rfl) (by kernel_rfl)) SE_int (by kernel_rfl)) SEs_nil (by kernel_rfl)) (by kernel_rfl)) (by kernel_rfl) (by kernel_rfl) (by kernel_rfl)) CondOk.nil (by kernel_rfl))) (SEs_cons (SE_idx (SE_var (i := 2) (by kernel_rfl) (by kernel_rfl) (by kernel_rfl)) SE_int (by kernel_rfl)) (SEs_cons (SE_idx (SE_var (i := 2) (by kernel_rfl) (by kernel_rfl) (by kernel_rfl)) SE_int (by kernel_rfl)) SEs_nil (by kernel_rfl)) (by kernel_rfl)) (by kernel_rfl)) (by kernel_rfl)))) (by kernel_rfl)) (SSs_cons (SS_for (tgt_of (by kernel_rfl)) (SI_range H.gnd SE_int (by kernel_rfl) (by kernel_rfl)) (SSs_cons (SS_asg (i := 7) (by kernel_rfl) (by kernel_rfl) (SE_bin rfl (SE_bin rfl (SE_bin rfl (SE_var (i := 6) (by kernel_rfl) (by kernel_rfl) (by kernel_rfl)) (SE_idx (SE_lst (SL_disp (SEs_cons SE_int (SEs_cons SE_int SEs_nil (by kernel_rfl)) (by kernel_rfl)))) (SE_bin rfl (SE_bin rfl (SE_var (i := 3) (by kernel_rfl) (by kernel_rfl) (by kernel_rfl)) SE_int) SE_int) (by kernel_rfl))) (SE_bin rfl (SE_var (i := 3) (by kernel_rfl) (by kernel_rfl) (by kernel_rfl)) SE_int)) SE_int) (by kernel_rfl)) (SSs_cons (SS_asg (i := 8) (by kernel_rfl) (by kernel_rfl) (SE_call H.gnd H.law_asked_is.isFn (SEs_cons (SE_var (i := 0) (by kernel_rfl) (by kernel_rfl) (by kernel_rfl)) (SEs_cons (SE_var (i := 7) (by kernel_rfl) (by kernel_rfl) (by kernel_rfl)) SEs_nil (by kernel_rfl)) (by kernel_rfl)) (by kernel_rfl) (by kernel_rfl) (by kernel_rfl)) (by kernel_rfl)) (SSs_cons (SS_lendA (ch := [8]) (by kernel_rfl) (SS_if (ST_or (ST_not (ST_plain (SE_islist H.gnd (SE_var (i := 8) (by kernel_rfl) (by kernel_rfl) (by kernel_rfl)) (by kernel_rfl) (by kernel_rfl) (by kernel_rfl)) (by kernel_rfl))) (ST_one_or (ST_cmp rfl (SE_var (i := 8) (by kernel_rfl) (by kernel_rfl) (by kernel_rfl)) (SE_idx (SE_var (i := 5) (by kernel_rfl) (by kernel_rfl) (by kernel_rfl)) (SE_var (i := 7) (by kernel_rfl) (by kernel_rfl) (by kernel_rfl)) (by kernel_rfl)) (by kernel_rfl)))) (SSs_cons (SS_ret SE_bool) SSs_nil) SSs_nil)) (SSs_cons (SS_if (ST_cmp rfl (SE_bin rfl (SE_bin rfl (SE_var (i := 3) (by kernel_rfl) (by kernel_rfl) (by kernel_rfl)) SE_int) SE_int) SE_int (by kernel_rfl)) (SSs_sink (i := 8) (x := "_law_told") (by kernel_rfl) (by kernel_rfl) (SSs_cons (SS_expr (SE_appT (SE_var (i := 4) (by kernel_rfl) (by kernel_rfl) (by kernel_rfl)) (SE_tup (SEs_cons (SE_var (i := 8) (by kernel_rfl) (by kernel_rfl) (by kernel_rfl)) (SEs_cons (SE_lst (SL_list H.gnd (SE_idx (SE_var (i := 5) (by kernel_rfl) (by kernel_rfl) (by kernel_rfl)) (SE_var (i := 7) (by kernel_rfl) (by kernel_rfl) (by kernel_rfl)) (by kernel_rfl)) (by kernel_rfl) (by kernel_rfl))) SEs_nil (by kernel_rfl)) (by kernel_rfl))) (by kernel_rfl) (methN (by kernel_rfl) (by kernel_rfl) (by kernel_rfl))) (by kernel_rfl)) SSs_nil)) (SSs_cons (SS_if (ST_cmp rfl (SE_var (i := 7) (by kernel_rfl) (by kernel_rfl) (by kernel_rfl)) SE_int (by kernel_rfl)) (SSs_cons (SS_lendA (ch := [8]) (by kernel_rfl) (SS_for (tgt_of (by kernel_rfl)) (SI_seqT (by decide) (SE_var (i := 8) (by kernel_rfl) (by kernel_rfl) (by kernel_rfl))) (SSs_cons (SS_expr (SE_appT (SE_var (i := 12) (by kernel_rfl) (by kernel_rfl) (by kernel_rfl)) (SE_tup (SEs_cons SE_int (SEs_cons SE_int SEs_nil (by kernel_rfl)) (by kernel_rfl))) (by kernel_rfl) (methN (by kernel_rfl) (by kernel_rfl) (by kernel_rfl))) (by kernel_rfl)) SSs_nil) (by kernel_rfl))) SSs_nil) SSs_nil) (SSs_cons (SS_expr (SE_appT (SE_var (i := 8) (by kernel_rfl) (by kernel_rfl) (by kernel_rfl)) SE_none (by kernel_rfl) (methN (by kernel_rfl) (by kernel_rfl) (by kernel_rfl))) (by kernel_rfl)) SSs_nil))) SSs_nil)))) (by kernel_rfl)) (SSs_cons (SS_ret SE_bool) SSs_nil)))
theorem call_law_stands {X : Cx} {c : CA} (H : Has X c) {n : Nat} {d0 d1 d2 d3 d4 : D} {σ : Sg} {Q : D → Sg → Prop} (h : mExecs X n m_law_stands [.val d0, .val d1, .val d2, .val d3, .val d4, .unb, .unb, .unb, .unb, .unb, .unb, .unb, .unb] σ (fun fl xx σ' => (∀ b, σ b ≠ none → σ' b ≠ none) ∧ Q (flD fl) σ')) :
    CallSem X (n + 1) "_law_stands" [d0, d1, d2, d3, d4] σ Q := call_intro H.gnd (sq_law_stands ▸ bq_law_stands ▸ H.law_stands_is) (ScOk.of sc_law_stands) (ok_law_stands H) rfl h

theorem sc_law_done : scOk c_law_done n_law_done ["_law_count", "_law_ballots_here", "_law_seats", "_law_enough", "_law_state"] = true := by kernel_rfl
theorem ok_law_done {X : Cx} {c : CA} (H : Has X c) {n : Nat} : SSs X n c_law_done n_law_done (fnBody (stmtAt P 43)) m_law_done :=
  (SSs_cons (SS_asg (i := 5) (by kernel_rfl) (by kernel_rfl) (SE_call H.gnd H.law_after_is.isFn (SEs_cons (SE_var (i := 1) (by kernel_rfl) (by kernel_rfl) (by kernel_rfl)) (SEs_cons (SE_var (i := 2) (by kernel_rfl) (by kernel_rfl) (by kernel_rfl)) (SEs_cons (SE_var (i := 3) (by kernel_rfl) (by kernel_rfl) (by kernel_rfl)) (SEs_cons (SE_var (i := 4) (by kernel_rfl) (by kernel_rfl) (by kernel_rfl)) SEs_nil (by kernel_rfl)) (by kernel_rfl)) (by kernel_rfl)) (by kernel_rfl)) (by kernel_rfl) (by kernel_rfl) (by kernel_rfl)) (by kernel_rfl)) (SSs_cons (SS_asg (i := 6) (by kernel_rfl) (by kernel_rfl) (SE_meth (SE_var (i := 0) (by kernel_rfl) (by kernel_rfl) (by kernel_rfl)) (by kernel_rfl)) (by kernel_rfl)) (SSs_cons (SS_if (ST_cmp rfl (SE_var (i := 5) (by kernel_rfl) (by kernel_rfl) (by kernel_rfl)) SE_none (by kernel_rfl)) (SSs_cons (SS_ret (SE_lst (SL_disp (SEs_cons (SE_cmp rfl (SE_var (i := 6) (by kernel_rfl) (by kernel_rfl) (by kernel_rfl)) SE_none (by kernel_rfl)) (SEs_cons (SE_var (i := 4) (by kernel_rfl) (by kernel_rfl) (by kernel_rfl)) SEs_nil (by kernel_rfl)) (by kernel_rfl))))) SSs_nil) SSs_nil) (SSs_cons (SS_ret (SE_lst (SL_disp (SEs_cons (SE_and (SE_istuple H.gnd (SE_var (i := 6) (by kernel_rfl) (by kernel_rfl) (by kernel_rfl)) (by kernel_rfl) (by kernel_rfl) (by kernel_rfl)) (SE_and (SE_cmp rfl (SE_var (i := 6) (by kernel_rfl) (by kernel_rfl) (by kernel_rfl)) (SE_idx (SE_var (i := 5) (by kernel_rfl) (by kernel_rfl) (by kernel_rfl)) SE_int (by kernel_rfl)) (by kernel_rfl)) (SE_one (SE_call H.gnd H.law_whole_is.isFn (SEs_cons (SE_idx (SE_var (i := 6) (by kernel_rfl) (by kernel_rfl) (by kernel_rfl)) SE_int (by kernel_rfl)) SEs_nil (by kernel_rfl)) (by kernel_rfl) (by kernel_rfl) (by kernel_rfl))))) (SEs_cons (SE_idx (SE_var (i := 5) (by kernel_rfl) (by kernel_rfl) (by kernel_rfl)) SE_int (by kernel_rfl)) SEs_nil (by kernel_rfl)) (by kernel_rfl))))) SSs_nil))))
theorem call_law_done {X : Cx} {c : CA} (H : Has X c) {n : Nat} {d0 d1 d2 d3 d4 : D} {σ : Sg} {Q : D → Sg → Prop} (h : mExecs X n m_law_done [.val d0, .val d1, .val d2, .val d3, .val d4, .unb, .unb] σ (fun fl xx σ' => (∀ b, σ b ≠ none → σ' b ≠ none) ∧ Q (flD fl) σ')) :
    CallSem X (n + 1) "_law_done" [d0, d1, d2, d3, d4] σ Q := call_intro H.gnd (sq_law_done ▸ bq_law_done ▸ H.law_done_is) (ScOk.of sc_law_done) (ok_law_done H) rfl h

theorem sc_law_beside : scOk c_law_beside n_law_beside ["_law_beside_here"] = true := by kernel_rfl
theorem ok_law_beside {X : Cx} {c : CA} (H : Has X c) {n : Nat} : SSs X n c_law_beside n_law_beside (fnBody (stmtAt P 44)) m_law_beside :=
  (SSs_cons (SS_if (ST_or (ST_cmp rfl (SE_meth (SE_var (i := 0) (by kernel_rfl) (by kernel_rfl) (by kernel_rfl)) (by kernel_rfl)) (SE_lst (SL_disp (SEs_cons SE_int (SEs_cons SE_int SEs_nil (by kernel_rfl)) (by kernel_rfl)))) (by kernel_rfl)) (ST_or (ST_cmp rfl (SE_meth (SE_var (i := 0) (by kernel_rfl) (by kernel_rfl) (by kernel_rfl)) (by kernel_rfl)) (SE_lst (SL_disp (SEs_cons SE_int (SEs_cons SE_int SEs_nil (by kernel_rfl)) (by kernel_rfl)))) (by kernel_rfl)) (ST_one_or (ST_cmp rfl (SE_meth (SE_var (i := 0) (by kernel_rfl) (by kernel_rfl) (by kernel_rfl)) (by kernel_rfl)) (SE_tup (SEs_cons SE_str (SEs_cons SE_int SEs_nil (by kernel_rfl)) (by kernel_rfl))) (by kernel_rfl))))) (SSs_cons (SS_ret SE_bool) SSs_nil) SSs_nil) (SSs_cons (SS_ret (SE_and (SE_cmp rfl (SE_meth (SE_var (i := 0) (by kernel_rfl) (by kernel_rfl) (by kernel_rfl)) (by kernel_rfl)) (SE_lst (SL_disp (SEs_cons (SE_tup (SEs_cons SE_int (SEs_cons (SE_lst (SL_disp (SEs_cons (SE_tup (SEs_cons SE_int (SEs_cons SE_int SEs_nil (by kernel_rfl)) (by kernel_rfl))) SEs_nil (by kernel_rfl)))) SEs_nil (by kernel_rfl)) (by kernel_rfl))) SEs_nil (by kernel_rfl)))) (by kernel_rfl)) (SE_and (SE_cmp rfl (SE_meth (SE_var (i := 0) (by kernel_rfl) (by kernel_rfl) (by kernel_rfl)) (by kernel_rfl)) SE_none (by kernel_rfl)) (SE_one (SE_cmp rfl (SE_meth (SE_var (i := 0) (by kernel_rfl) (by kernel_rfl) (by kernel_rfl)) (by kernel_rfl)) (SE_lst (SL_disp (SEs_cons SE_int SEs_nil (by kernel_rfl)))) (by kernel_rfl)))))) SSs_nil))
theorem call_law_beside {X : Cx} {c : CA} (H : Has X c) {n : Nat} {d0 : D} {σ : Sg} {Q : D → Sg → Prop} (h : mExecs X n m_law_beside [.val d0] σ (fun fl xx σ' => (∀ b, σ b ≠ none → σ' b ≠ none) ∧ Q (flD fl) σ')) :
    CallSem X (n + 1) "_law_beside" [d0] σ Q := call_intro H.gnd (sq_law_beside ▸ bq_law_beside ▸ H.law_beside_is) (ScOk.of sc_law_beside) (ok_law_beside H) rfl h

theorem sc_law_back : scOk c_law_back n_law_back ["_law_count", "_law_past"] = true := by kernel_rfl
theorem ok_law_back {X : Cx} {c : CA} (H : Has X c) {n : Nat} : SSs X n c_law_back n_law_back (fnBody (stmtAt P 45)) m_law_back :=
  (SSs_cons (SS_asg (i := 2) (by kernel_rfl) (by kernel_rfl) (SE_meth (SE_var (i := 0) (by kernel_rfl) (by kernel_rfl) (by kernel_rfl)) (by kernel_rfl)) (by kernel_rfl)) (SSs_cons (SS_ret (SE_and (SE_isbool H.gnd (SE_var (i := 2) (by kernel_rfl) (by kernel_rfl) (by kernel_rfl)) (by kernel_rfl) (by kernel_rfl) (by kernel_rfl)) (SE_one (SE_cmp rfl (SE_var (i := 2) (by kernel_rfl) (by kernel_rfl) (by kernel_rfl)) (SE_lendE (ch := [1]) (by kernel_rfl) (SE_cmp rfl (SE_var (i := 1) (by kernel_rfl) (by kernel_rfl) (by kernel_rfl)) (SE_lst (SL_disp SEs_nil)) (by kernel_rfl))) (by kernel_rfl))))) SSs_nil))
theorem call_law_back {X : Cx} {c : CA} (H : Has X c) {n : Nat} {d0 d1 : D} {σ : Sg} {Q : D → Sg → Prop} (h : mExecs X n m_law_back [.val d0, .val d1, .unb] σ (fun fl xx σ' => (∀ b, σ b ≠ none → σ' b ≠ none) ∧ Q (flD fl) σ')) :
    CallSem X (n + 1) "_law_back" [d0, d1] σ Q := call_intro H.gnd (sq_law_back ▸ bq_law_back ▸ H.law_back_is) (ScOk.of sc_law_back) (ok_law_back H) rfl h

theorem sc_law : scOk c_law n_law ["_law_script"] = true := by kernel_rfl
theorem ok_law {X : Cx} {c : CA} (H : Has X c) {n : Nat} : SSs X n c_law n_law (fnBody (stmtAt P 46)) m_law :=
  (SSs_cons (SS_asg (i := 1) (by kernel_rfl) (by kernel_rfl) (SE_call H.gnd H.law_candidates_is.isFn (SEs_cons (SE_var (i := 0) (by kernel_rfl) (by kernel_rfl) (by kernel_rfl)) SEs_nil (by kernel_rfl)) (by kernel_rfl) (by kernel_rfl) (by kernel_rfl)) (by kernel_rfl)) (SSs_cons (SS_asg (i := 2) (by kernel_rfl) (by kernel_rfl) (SE_call H.gnd H.law_ballots_is.isFn (SEs_cons (SE_var (i := 0) (by kernel_rfl) (by kernel_rfl) (by kernel_rfl)) (SEs_cons (SE_var (i := 1) (by kernel_rfl) (by kernel_rfl) (by kernel_rfl)) SEs_nil (by kernel_rfl)) (by kernel_rfl)) (by kernel_rfl) (by kernel_rfl) (by kernel_rfl)) (by kernel_rfl)) (SSs_cons (SS_asg (i := 3) (by kernel_rfl) (by kernel_rfl) (SE_bin rfl SE_int (SE_bin rfl (SE_call H.gnd H.law_cell_is.isFn (SEs_cons (SE_var (i := 0) (by kernel_rfl) (by kernel_rfl) (by kernel_rfl)) (SEs_cons SE_int SEs_nil (by kernel_rfl)) (by kernel_rfl)) (by kernel_rfl) (by kernel_rfl) (by kernel_rfl)) (SE_var (i := 1) (by kernel_rfl) (by kernel_rfl) (by kernel_rfl)))) (by kernel_rfl)) (SSs_cons (SS_asg (i := 4) (by kernel_rfl) (by kernel_rfl) (SE_bin rfl (SE_bin rfl (SE_sum H.gnd (SE_lst (SL_comp (comp_of (by kernel_rfl)) (tgtL_of (by kernel_rfl)) (SI_seqT (by decide) (SE_var (i := 2) (by kernel_rfl) (by kernel_rfl) (by kernel_rfl))) (SE_var (i := 14) (by kernel_rfl) (by kernel_rfl) (by kernel_rfl)) CondOk.nil (by kernel_rfl))) (by kernel_rfl) (by kernel_rfl)) (SE_bin rfl (SE_var (i := 3) (by kernel_rfl) (by kernel_rfl) (by kernel_rfl)) SE_int)) SE_int) (by kernel_rfl)) (SSs_cons (SS_asg (i := 5) (by kernel_rfl) (by kernel_rfl) (SE_call H.gnd H.law_copy_is.isFn (SEs_cons (SE_var (i := 2) (by kernel_rfl) (by kernel_rfl) (by kernel_rfl)) SEs_nil (by kernel_rfl)) (by kernel_rfl) (by kernel_rfl) (by kernel_rfl)) (by kernel_rfl)) (SSs_cons (SS_asg (i := 6) (by kernel_rfl) (by kernel_rfl) (SE_make H.gnd (SEs_cons (SE_var (i := 1) (by kernel_rfl) (by kernel_rfl) (by kernel_rfl)) (SEs_cons (SE_var (i := 5) (by kernel_rfl) (by kernel_rfl) (by kernel_rfl)) (SEs_cons (SE_var (i := 3) (by kernel_rfl) (by kernel_rfl) (by kernel_rfl)) SEs_nil (by kernel_rfl)) (by kernel_rfl)) (by kernel_rfl)) (by kernel_rfl) (by kernel_rfl) (by kernel_rfl)) (by kernel_rfl)) (SSs_cons (SS_asg (i := 7) (by kernel_rfl) (by kernel_rfl) (SE_make H.gnd (SEs_cons SE_int (SEs_cons (SE_lst (SL_disp (SEs_cons (SE_tup (SEs_cons SE_int (SEs_cons (SE_lst (SL_disp (SEs_cons SE_int (SEs_cons SE_int SEs_nil (by kernel_rfl)) (by kernel_rfl)))) SEs_nil (by kernel_rfl)) (by kernel_rfl))) (SEs_cons (SE_tup (SEs_cons SE_int (SEs_cons (SE_lst (SL_disp (SEs_cons SE_int SEs_nil (by kernel_rfl)))) SEs_nil (by kernel_rfl)) (by kernel_rfl))) SEs_nil (by kernel_rfl)) (by kernel_rfl)))) (SEs_cons SE_int SEs_nil (by kernel_rfl)) (by kernel_rfl)) (by kernel_rfl)) (by kernel_rfl) (by kernel_rfl) (by kernel_rfl)) (by kernel_rfl)) (SSs_cons (SS_asg (i := 8) (by kernel_rfl) (by kernel_rfl) (SE_make H.gnd (SEs_cons (SE_var (i := 1) (by kernel_rfl) (by kernel_rfl) (by kernel_rfl)) (SEs_cons (SE_call H.gnd H.law_copy_is.isFn (SEs_cons (SE_var (i := 2) (by kernel_rfl) (by kernel_rfl) (by kernel_rfl)) SEs_nil (by kernel_rfl)) (by kernel_rfl) (by kernel_rfl) (by kernel_rfl)) (SEs_cons (SE_var (i := 3) (by kernel_rfl) (by kernel_rfl) (by kernel_rfl)) SEs_nil (by kernel_rfl)) (by kernel_rfl)) (by kernel_rfl)) (by kernel_rfl) (by kernel_rfl) (by kernel_rfl)) (by kernel_rfl)) (SSs_cons (SS_lendA (ch := [5]) (by kernel_rfl) (SS_for (tgt_of (by kernel_rfl)) (SI_seqT (by decide) (SE_var (i := 5) (by kernel_rfl) (by kernel_rfl) (by kernel_rfl))) (SSs_cons (SS_expr (SE_clearT (SE_var (i := 15) (by kernel_rfl) (by kernel_rfl) (by kernel_rfl)) (methN (by kernel_rfl) (by kernel_rfl) (by kernel_rfl))) (by kernel_rfl)) SSs_nil) (by kernel_rfl))) (SSs_cons (SS_expr (SE_clearT (SE_var (i := 5) (by kernel_rfl) (by kernel_rfl) (by kernel_rfl)) (methN (by kernel_rfl) (by kernel_rfl) (by kernel_rfl))) (by kernel_rfl)) (SSs_cons (SS_asg (i := 9) (by kernel_rfl) (by kernel_rfl) (SE_lst (SL_disp (SEs_cons (SE_lst (SL_listRange H.gnd (SE_var (i := 1) (by kernel_rfl) (by kernel_rfl) (by kernel_rfl)) (by kernel_rfl) (by kernel_rfl) (by kernel_rfl))) (SEs_cons (SE_lst (SL_comp (comp_of (by kernel_rfl)) (tgtL_of (by kernel_rfl)) (SI_seqT (by decide) (SE_var (i := 2) (by kernel_rfl) (by kernel_rfl) (by kernel_rfl))) (SE_var (i := 14) (by kernel_rfl) (by kernel_rfl) (by kernel_rfl)) CondOk.nil (by kernel_rfl))) (SEs_cons (SE_lst (SL_disp SEs_nil)) SEs_nil (by kernel_rfl)) (by kernel_rfl)) (by kernel_rfl)))) (by kernel_rfl)) (SSs_cons (SS_asg (i := 10) (by kernel_rfl) (by kernel_rfl) (SE_lst (SL_disp (SEs_cons SE_bool (SEs_cons (SE_var (i := 9) (by kernel_rfl) (by kernel_rfl) (by kernel_rfl)) SEs_nil (by kernel_rfl)) (by kernel_rfl)))) (by kernel_rfl)) (SSs_cons (SS_asg (i := 11) (by kernel_rfl) (by kernel_rfl) (SE_track (SL_disp SEs_nil)) (by kernel_rfl)) (SSs_cons (SS_asg (i := 12) (by kernel_rfl) (by kernel_rfl) (SE_track (SL_disp SEs_nil)) (by kernel_rfl)) (SSs_cons (SS_for (tgt_of (by kernel_rfl)) (SI_seq (SE_lst (SL_from (SE_var (i := 0) (by kernel_rfl) (by kernel_rfl) (by kernel_rfl)) SE_int))) (SSs_cons (SS_asgM (i := 16) (by kernel_rfl) (by kernel_rfl) (SL_disp (SEs_cons SE_bool (SEs_cons (SE_var (i := 9) (by kernel_rfl) (by kernel_rfl) (by kernel_rfl)) SEs_nil (by kernel_rfl)) (by kernel_rfl))) (by kernel_rfl)) (SSs_cons (SS_if (ST_cmp rfl (SE_bin rfl (SE_var (i := 13) (by kernel_rfl) (by kernel_rfl) (by kernel_rfl)) SE_int) SE_int (by kernel_rfl)) (SSs_cons (SS_setI (i := 16) (by kernel_rfl) (by kernel_rfl) (by kernel_rfl) (SE_call H.gnd H.law_back_is.isFn (SEs_cons (SE_var (i := 6) (by kernel_rfl) (by kernel_rfl) (by kernel_rfl)) (SEs_cons (SE_var (i := 11) (by kernel_rfl) (by kernel_rfl) (by kernel_rfl)) SEs_nil (by kernel_rfl)) (by kernel_rfl)) (by kernel_rfl) (by kernel_rfl) (by kernel_rfl)) SE_int (by kernel_rfl)) (SSs_cons (SS_if (ST_lendT (ch := [11]) (by kernel_rfl) (ST_cmp rfl (SE_var (i := 11) (by kernel_rfl) (by kernel_rfl) (by kernel_rfl)) (SE_lst (SL_disp SEs_nil)) (by kernel_rfl))) (SSs_cons (SS_setI (i := 16) (by kernel_rfl) (by kernel_rfl) (by kernel_rfl) (SE_popT (SE_var (i := 11) (by kernel_rfl) (by kernel_rfl) (by kernel_rfl)) (methN (by kernel_rfl) (by kernel_rfl) (by kernel_rfl))) SE_int (by kernel_rfl)) SSs_nil) SSs_nil) (SSs_freeze (i := 16) (x := "_law_first_here") (by kernel_rfl) (by kernel_rfl) SSs_nil))) (SSs_cons (SS_asg (i := 16) (by kernel_rfl) (by kernel_rfl) (SE_call H.gnd H.law_done_is.isFn (SEs_cons (SE_var (i := 6) (by kernel_rfl) (by kernel_rfl) (by kernel_rfl)) (SEs_cons (SE_var (i := 2) (by kernel_rfl) (by kernel_rfl) (by kernel_rfl)) (SEs_cons (SE_var (i := 3) (by kernel_rfl) (by kernel_rfl) (by kernel_rfl)) (SEs_cons (SE_var (i := 4) (by kernel_rfl) (by kernel_rfl) (by kernel_rfl)) (SEs_cons (SE_var (i := 9) (by kernel_rfl) (by kernel_rfl) (by kernel_rfl)) SEs_nil (by kernel_rfl)) (by kernel_rfl)) (by kernel_rfl)) (by kernel_rfl)) (by kernel_rfl)) (by kernel_rfl) (by kernel_rfl) (by kernel_rfl)) (by kernel_rfl)) (SSs_cons (SS_if (ST_cmp rfl (SE_idx (SE_var (i := 16) (by kernel_rfl) (by kernel_rfl) (by kernel_rfl)) SE_int (by kernel_rfl)) (SE_var (i := 9) (by kernel_rfl) (by kernel_rfl) (by kernel_rfl)) (by kernel_rfl)) (SSs_cons (SS_expr (SE_appT (SE_var (i := 11) (by kernel_rfl) (by kernel_rfl) (by kernel_rfl)) (SE_var (i := 9) (by kernel_rfl) (by kernel_rfl) (by kernel_rfl)) (by kernel_rfl) (methN (by kernel_rfl) (by kernel_rfl) (by kernel_rfl))) (by kernel_rfl)) SSs_nil) SSs_nil) SSs_nil))) (SSs_cons (SS_asg (i := 9) (by kernel_rfl) (by kernel_rfl) (SE_idx (SE_var (i := 16) (by kernel_rfl) (by kernel_rfl) (by kernel_rfl)) SE_int (by kernel_rfl)) (by kernel_rfl)) (SSs_cons (SS_if (ST_cmp rfl (SE_bin rfl (SE_bin rfl (SE_var (i := 13) (by kernel_rfl) (by kernel_rfl) (by kernel_rfl)) SE_int) SE_int) SE_int (by kernel_rfl)) (SSs_cons (SS_asg (i := 10) (by kernel_rfl) (by kernel_rfl) (SE_call H.gnd H.law_done_is.isFn (SEs_cons (SE_var (i := 8) (by kernel_rfl) (by kernel_rfl) (by kernel_rfl)) (SEs_cons (SE_var (i := 2) (by kernel_rfl) (by kernel_rfl) (by kernel_rfl)) (SEs_cons (SE_var (i := 3) (by kernel_rfl) (by kernel_rfl) (by kernel_rfl)) (SEs_cons (SE_var (i := 4) (by kernel_rfl) (by kernel_rfl) (by kernel_rfl)) (SEs_cons (SE_idx (SE_var (i := 10) (by kernel_rfl) (by kernel_rfl) (by kernel_rfl)) SE_int (by kernel_rfl)) SEs_nil (by kernel_rfl)) (by kernel_rfl)) (by kernel_rfl)) (by kernel_rfl)) (by kernel_rfl)) (by kernel_rfl) (by kernel_rfl) (by kernel_rfl)) (by kernel_rfl)) SSs_nil) SSs_nil) (SSs_cons (SS_if (ST_or (ST_not (ST_plain (SE_idx (SE_var (i := 16) (by kernel_rfl) (by kernel_rfl) (by kernel_rfl)) SE_int (by kernel_rfl)) (by kernel_rfl))) (ST_or (ST_not (ST_plain (SE_idx (SE_var (i := 10) (by kernel_rfl) (by kernel_rfl) (by kernel_rfl)) SE_int (by kernel_rfl)) (by kernel_rfl))) (ST_one_or (ST_not (ST_plain (SE_call H.gnd H.law_stands_is.isFn (SEs_cons (SE_var (i := 6) (by kernel_rfl) (by kernel_rfl) (by kernel_rfl)) (SEs_cons (SE_var (i := 2) (by kernel_rfl) (by kernel_rfl) (by kernel_rfl)) (SEs_cons (SE_var (i := 9) (by kernel_rfl) (by kernel_rfl) (by kernel_rfl)) (SEs_cons (SE_var (i := 13) (by kernel_rfl) (by kernel_rfl) (by kernel_rfl)) (SEs_cons (SE_var (i := 12) (by kernel_rfl) (by kernel_rfl) (by kernel_rfl)) SEs_nil (by kernel_rfl)) (by kernel_rfl)) (by kernel_rfl)) (by kernel_rfl)) (by kernel_rfl)) (by kernel_rfl) (by kernel_rfl) (by kernel_rfl)) (by kernel_rfl)))))) (SSs_cons (SS_ret SE_bool) SSs_nil) SSs_nil) SSs_nil))))) (by kernel_rfl)) (SSs_cons (SS_if (ST_or (ST_cmp rfl (SE_meth (SE_var (i := 8) (by kernel_rfl) (by kernel_rfl) (by kernel_rfl)) (by kernel_rfl)) (SE_idx (SE_idx (SE_var (i := 10) (by kernel_rfl) (by kernel_rfl) (by kernel_rfl)) SE_int (by kernel_rfl)) SE_int (by kernel_rfl)) (by kernel_rfl)) (ST_or (ST_cmp rfl (SE_meth (SE_var (i := 8) (by kernel_rfl) (by kernel_rfl) (by kernel_rfl)) (by kernel_rfl)) (SE_idx (SE_idx (SE_var (i := 10) (by kernel_rfl) (by kernel_rfl) (by kernel_rfl)) SE_int (by kernel_rfl)) SE_int (by kernel_rfl)) (by kernel_rfl)) (ST_one_or (ST_cmp rfl (SE_meth (SE_var (i := 8) (by kernel_rfl) (by kernel_rfl) (by kernel_rfl)) (by kernel_rfl)) (SE_idx (SE_idx (SE_var (i := 10) (by kernel_rfl) (by kernel_rfl) (by kernel_rfl)) SE_int (by kernel_rfl)) SE_int (by kernel_rfl)) (by kernel_rfl))))) (SSs_cons (SS_ret SE_bool) SSs_nil) SSs_nil) (SSs_cons (SS_ret (SE_and (SE_lendE (ch := [12]) (by kernel_rfl) (SE_cmp rfl (SE_lst (SL_comp (comp_of (by kernel_rfl)) (tgtL_of (by kernel_rfl)) (SI_seqT (by decide) (SE_var (i := 12) (by kernel_rfl) (by kernel_rfl) (by kernel_rfl))) SE_int (CondOk.one (ST_cmp rfl (SE_var (i := 17) (by kernel_rfl) (by kernel_rfl) (by kernel_rfl)) (SE_var (i := 18) (by kernel_rfl) (by kernel_rfl) (by kernel_rfl)) (by kernel_rfl))) (by kernel_rfl))) (SE_lst (SL_disp SEs_nil)) (by kernel_rfl))) (SE_one (SE_call H.gnd H.law_beside_is.isFn (SEs_cons (SE_var (i := 7) (by kernel_rfl) (by kernel_rfl) (by kernel_rfl)) SEs_nil (by kernel_rfl)) (by kernel_rfl) (by kernel_rfl) (by kernel_rfl))))) SSs_nil)))))))))))))))))
theorem call_law {X : Cx} {c : CA} (H : Has X c) {n : Nat} {d0 : D} {σ : Sg} {Q : D → Sg → Prop} (h : mExecs X n m_law [.val d0, .unb, .unb, .unb, .unb, .unb, .unb, .unb, .unb, .unb, .unb, .unb, .unb, .unb, .unb, .unb, .unb, .unb, .unb] σ (fun fl xx σ' => (∀ b, σ b ≠ none → σ' b ≠ none) ∧ Q (flD fl) σ')) :
    CallSem X (n + 1) "law" [d0] σ Q := call_intro H.gnd (sq_law ▸ bq_law ▸ H.law_is) (ScOk.of sc_law) (ok_law H) rfl h
theorem ok_Count_standingT {X : Cx} {c : CA} (H : Has X c) {n : Nat} : SSs X n c_Count_standing n_Count_standing (fnBody (methAt P 26 3)) m_Count_standingT :=
  (SSs_cons (SS_ret (SE_track (SL_list H.gnd (SE_idx (SE_last (SE_attr (SE_var (i := 0) (by kernel_rfl) (by kernel_rfl) (by kernel_rfl)))) SE_int (by kernel_rfl)) (by kernel_rfl) (by kernel_rfl)))) SSs_nil)
theorem call_Count_standingT {X : Cx} {c : CA} (H : Has X c) {n : Nat} {d0 : D} {σ : Sg} {Q : D → Sg → Prop} (h : mExecs X n m_Count_standingT [.val d0] σ (fun fl xx σ' => (∀ b, σ b ≠ none → σ' b ≠ none) ∧ Q (flD fl) σ')) :
    CallA X (n + 1) (.ref c.standing) [d0] σ Q := call_at H.gnd H.Count_standing_is (ScOk.of sc_Count_standing) (ok_Count_standingT H) rfl h
theorem ok_Count_placesT {X : Cx} {c : CA} (H : Has X c) {n : Nat} : SSs X n c_Count_places n_Count_places (fnBody (methAt P 26 4)) m_Count_placesT :=
  (SSs_cons (SS_asg (i := 1) (by kernel_rfl) (by kernel_rfl) (SE_idx (SE_last (SE_attr (SE_var (i := 0) (by kernel_rfl) (by kernel_rfl) (by kernel_rfl)))) SE_int (by kernel_rfl)) (by kernel_rfl)) (SSs_cons (SS_ret (SE_track (SL_comp (comp_of (by kernel_rfl)) (tgtL_of (by kernel_rfl)) (SI_seq (SE_attr (SE_var (i := 0) (by kernel_rfl) (by kernel_rfl) (by kernel_rfl)))) (SE_call H.gnd H.place_of_is.isFn (SEs_cons (SE_var (i := 2) (by kernel_rfl) (by kernel_rfl) (by kernel_rfl)) (SEs_cons (SE_var (i := 1) (by kernel_rfl) (by kernel_rfl) (by kernel_rfl)) SEs_nil (by kernel_rfl)) (by kernel_rfl)) (by kernel_rfl) (by kernel_rfl) (by kernel_rfl)) CondOk.nil (by kernel_rfl)))) SSs_nil))
theorem call_Count_placesT {X : Cx} {c : CA} (H : Has X c) {n : Nat} {d0 : D} {σ : Sg} {Q : D → Sg → Prop} (h : mExecs X n m_Count_placesT [.val d0, .unb, .unb] σ (fun fl xx σ' => (∀ b, σ b ≠ none → σ' b ≠ none) ∧ Q (flD fl) σ')) :
    CallA X (n + 1) (.ref c.places) [d0] σ Q := call_at H.gnd H.Count_places_is (ScOk.of sc_Count_places) (ok_Count_placesT H) rfl h
theorem ok_Count_leftT {X : Cx} {c : CA} (H : Has X c) {n : Nat} : SSs X n c_Count_left n_Count_left (fnBody (methAt P 26 5)) m_Count_leftT :=
  (SSs_cons (SS_ret (SE_track (SL_list H.gnd (SE_idx (SE_last (SE_attr (SE_var (i := 0) (by kernel_rfl) (by kernel_rfl) (by kernel_rfl)))) SE_int (by kernel_rfl)) (by kernel_rfl) (by kernel_rfl)))) SSs_nil)
theorem call_Count_leftT {X : Cx} {c : CA} (H : Has X c) {n : Nat} {d0 : D} {σ : Sg} {Q : D → Sg → Prop} (h : mExecs X n m_Count_leftT [.val d0] σ (fun fl xx σ' => (∀ b, σ b ≠ none → σ' b ≠ none) ∧ Q (flD fl) σ')) :
    CallA X (n + 1) (.ref c.left) [d0] σ Q := call_at H.gnd H.Count_left_is (ScOk.of sc_Count_left) (ok_Count_leftT H) rfl h
theorem ok_Count_seatsT {X : Cx} {c : CA} (H : Has X c) {n : Nat} : SSs X n c_Count_seats n_Count_seats (fnBody (methAt P 26 6)) m_Count_seatsT :=
  (SSs_cons (SS_ret (SE_track (SL_comp (comp_of (by kernel_rfl)) (tgtL_of (by kernel_rfl)) (SI_seqT (by decide) (SE_idx (SE_last (SE_attr (SE_var (i := 0) (by kernel_rfl) (by kernel_rfl) (by kernel_rfl)))) SE_int (by kernel_rfl))) (SE_tup (SEs_cons (SE_var (i := 1) (by kernel_rfl) (by kernel_rfl) (by kernel_rfl)) (SEs_cons (SE_track (SL_list H.gnd (SE_var (i := 2) (by kernel_rfl) (by kernel_rfl) (by kernel_rfl)) (by kernel_rfl) (by kernel_rfl))) SEs_nil (by kernel_rfl)) (by kernel_rfl))) CondOk.nil (by kernel_rfl)))) SSs_nil)
theorem call_Count_seatsT {X : Cx} {c : CA} (H : Has X c) {n : Nat} {d0 : D} {σ : Sg} {Q : D → Sg → Prop} (h : mExecs X n m_Count_seatsT [.val d0, .unb, .unb] σ (fun fl xx σ' => (∀ b, σ b ≠ none → σ' b ≠ none) ∧ Q (flD fl) σ')) :
    CallA X (n + 1) (.ref c.seats) [d0] σ Q := call_at H.gnd H.Count_seats_is (ScOk.of sc_Count_seats) (ok_Count_seatsT H) rfl h

end L06
section
open PySem.W
namespace L06
noncomputable def es_glob (pr : Params) : Array DictEntry :=
  #[{ hash := PySem.PyData.keyHash pr (PySem.Str.ofString "__name__"),
                key := PySem.Value.str (PySem.Str.ofString "__name__") 165,
                val := PySem.Value.str (PySem.Str.ofString "law_uf060016_06") 474 },
              { hash := PySem.PyData.keyHash pr (PySem.Str.ofString "__doc__"),
                key := PySem.Value.str (PySem.Str.ofString "__doc__") 166, val := PySem.Value.none },
              { hash := PySem.PyData.keyHash pr (PySem.Str.ofString "__package__"),
                key := PySem.Value.str (PySem.Str.ofString "__package__") 167, val := PySem.Value.none },
              { hash := PySem.PyData.keyHash pr (PySem.Str.ofString "__loader__"),
                key := PySem.Value.str (PySem.Str.ofString "__loader__") 168,
                val := PySem.Value.builtin "__main__.__loader__#opaque" },
              { hash := PySem.PyData.keyHash pr (PySem.Str.ofString "__spec__"),
                key := PySem.Value.str (PySem.Str.ofString "__spec__") 169, val := PySem.Value.none },
              { hash := PySem.PyData.keyHash pr (PySem.Str.ofString "__annotations__"),
                key := PySem.Value.str (PySem.Str.ofString "__annotations__") 170, val := PySem.Value.ref 6 },
              { hash := PySem.PyData.keyHash pr (PySem.Str.ofString "__builtins__"),
                key := PySem.Value.str (PySem.Str.ofString "__builtins__") 171, val := PySem.Value.ref 4 },
              { hash := PySem.PyData.keyHash pr (PySem.Str.ofString "__file__"),
                key := PySem.Value.str (PySem.Str.ofString "__file__") 173,
                val := PySem.Value.str (PySem.Str.ofString "/claim/cut.py") 172 },
              { hash := PySem.PyData.keyHash pr (PySem.Str.ofString "__cached__"),
                key := PySem.Value.str (PySem.Str.ofString "__cached__") 174, val := PySem.Value.none },
              { hash := PySem.PyData.keyHash pr (PySem.Str.ofString "VoteError"),
                key := PySem.Value.str (PySem.Str.ofString "VoteError") 206, val := PySem.Value.ref 24 },
              { hash := PySem.PyData.keyHash pr (PySem.Str.ofString "BadCount"),
                key := PySem.Value.str (PySem.Str.ofString "BadCount") 222, val := PySem.Value.ref 37 },
              { hash := PySem.PyData.keyHash pr (PySem.Str.ofString "BadSeats"),
                key := PySem.Value.str (PySem.Str.ofString "BadSeats") 238, val := PySem.Value.ref 49 },
              { hash := PySem.PyData.keyHash pr (PySem.Str.ofString "TooMany"),
                key := PySem.Value.str (PySem.Str.ofString "TooMany") 254, val := PySem.Value.ref 61 },
              { hash := PySem.PyData.keyHash pr (PySem.Str.ofString "BadBallot"),
                key := PySem.Value.str (PySem.Str.ofString "BadBallot") 270, val := PySem.Value.ref 73 },
              { hash := PySem.PyData.keyHash pr (PySem.Str.ofString "MOST_CANDIDATES"),
                key := PySem.Value.str (PySem.Str.ofString "MOST_CANDIDATES") 274, val := PySem.Value.int 12 273 },
              { hash := PySem.PyData.keyHash pr (PySem.Str.ofString "MOST_BALLOTS"),
                key := PySem.Value.str (PySem.Str.ofString "MOST_BALLOTS") 276, val := PySem.Value.int 40 275 },
              { hash := PySem.PyData.keyHash pr (PySem.Str.ofString "MOST_WEIGHT"),
                key := PySem.Value.str (PySem.Str.ofString "MOST_WEIGHT") 278, val := PySem.Value.int 1000000000 277 },
              { hash := PySem.PyData.keyHash pr (PySem.Str.ofString "is_whole"),
                key := PySem.Value.str (PySem.Str.ofString "is_whole") 287, val := PySem.Value.ref 82 },
              { hash := PySem.PyData.keyHash pr (PySem.Str.ofString "is_row"),
                key := PySem.Value.str (PySem.Str.ofString "is_row") 297, val := PySem.Value.ref 89 },
              { hash := PySem.PyData.keyHash pr (PySem.Str.ofString "is_ballot"),
                key := PySem.Value.str (PySem.Str.ofString "is_ballot") 305, val := PySem.Value.ref 96 },
              { hash := PySem.PyData.keyHash pr (PySem.Str.ofString "need_vote"),
                key := PySem.Value.str (PySem.Str.ofString "need_vote") 315, val := PySem.Value.ref 103 },
              { hash := PySem.PyData.keyHash pr (PySem.Str.ofString "most_held"),
                key := PySem.Value.str (PySem.Str.ofString "most_held") 327, val := PySem.Value.ref 110 },
              { hash := PySem.PyData.keyHash pr (PySem.Str.ofString "least_held"),
                key := PySem.Value.str (PySem.Str.ofString "least_held") 337, val := PySem.Value.ref 117 },
              { hash := PySem.PyData.keyHash pr (PySem.Str.ofString "deed_of"),
                key := PySem.Value.str (PySem.Str.ofString "deed_of") 348, val := PySem.Value.ref 124 },
              { hash := PySem.PyData.keyHash pr (PySem.Str.ofString "place_of"),
                key := PySem.Value.str (PySem.Str.ofString "place_of") 359, val := PySem.Value.ref 131 },
              { hash := PySem.PyData.keyHash pr (PySem.Str.ofString "held"),
                key := PySem.Value.str (PySem.Str.ofString "held") 371, val := PySem.Value.ref 138 },
              { hash := PySem.PyData.keyHash pr (PySem.Str.ofString "all_weights"),
                key := PySem.Value.str (PySem.Str.ofString "all_weights") 379, val := PySem.Value.ref 143 },
              { hash := PySem.PyData.keyHash pr (PySem.Str.ofString "quota"),
                key := PySem.Value.str (PySem.Str.ofString "quota") 387, val := PySem.Value.ref 150 },
              { hash := PySem.PyData.keyHash pr (PySem.Str.ofString "parts"),
                key := PySem.Value.str (PySem.Str.ofString "parts") 401, val := PySem.Value.ref 157 },
              { hash := PySem.PyData.keyHash pr (PySem.Str.ofString "Count"),
                key := PySem.Value.str (PySem.Str.ofString "Count") 473, val := PySem.Value.ref 208 },
              { hash := PySem.PyData.keyHash pr (PySem.Str.ofString "_law_cell"),
                key := PySem.Value.str (PySem.Str.ofString "_law_cell") 484, val := PySem.Value.ref 219 },
              { hash := PySem.PyData.keyHash pr (PySem.Str.ofString "_law_whole"),
                key := PySem.Value.str (PySem.Str.ofString "_law_whole") 491, val := PySem.Value.ref 226 },
              { hash := PySem.PyData.keyHash pr (PySem.Str.ofString "_law_row"),
                key := PySem.Value.str (PySem.Str.ofString "_law_row") 503, val := PySem.Value.ref 233 },
              { hash := PySem.PyData.keyHash pr (PySem.Str.ofString "_law_weight"),
                key := PySem.Value.str (PySem.Str.ofString "_law_weight") 511, val := PySem.Value.ref 240 },
              { hash := PySem.PyData.keyHash pr (PySem.Str.ofString "_law_candidates"),
                key := PySem.Value.str (PySem.Str.ofString "_law_candidates") 518, val := PySem.Value.ref 247 },
              { hash := PySem.PyData.keyHash pr (PySem.Str.ofString "_law_ballots"),
                key := PySem.Value.str (PySem.Str.ofString "_law_ballots") 524, val := PySem.Value.ref 252 },
              { hash := PySem.PyData.keyHash pr (PySem.Str.ofString "_law_copy"),
                key := PySem.Value.str (PySem.Str.ofString "_law_copy") 530, val := PySem.Value.ref 257 },
              { hash := PySem.PyData.keyHash pr (PySem.Str.ofString "_law_place"),
                key := PySem.Value.str (PySem.Str.ofString "_law_place") 536, val := PySem.Value.ref 262 },
              { hash := PySem.PyData.keyHash pr (PySem.Str.ofString "_law_gather"),
                key := PySem.Value.str (PySem.Str.ofString "_law_gather") 547, val := PySem.Value.ref 269 },
              { hash := PySem.PyData.keyHash pr (PySem.Str.ofString "_law_parts"),
                key := PySem.Value.str (PySem.Str.ofString "_law_parts") 561, val := PySem.Value.ref 276 },
              { hash := PySem.PyData.keyHash pr (PySem.Str.ofString "_law_first"),
                key := PySem.Value.str (PySem.Str.ofString "_law_first") 567, val := PySem.Value.ref 281 },
              { hash := PySem.PyData.keyHash pr (PySem.Str.ofString "_law_last"),
                key := PySem.Value.str (PySem.Str.ofString "_law_last") 573, val := PySem.Value.ref 286 },
              { hash := PySem.PyData.keyHash pr (PySem.Str.ofString "_law_after"),
                key := PySem.Value.str (PySem.Str.ofString "_law_after") 579, val := PySem.Value.ref 291 },
              { hash := PySem.PyData.keyHash pr (PySem.Str.ofString "_law_asked"),
                key := PySem.Value.str (PySem.Str.ofString "_law_asked") 587, val := PySem.Value.ref 298 },
              { hash := PySem.PyData.keyHash pr (PySem.Str.ofString "_law_stands"),
                key := PySem.Value.str (PySem.Str.ofString "_law_stands") 593, val := PySem.Value.ref 303 },
              { hash := PySem.PyData.keyHash pr (PySem.Str.ofString "_law_done"),
                key := PySem.Value.str (PySem.Str.ofString "_law_done") 606, val := PySem.Value.ref 310 },
              { hash := PySem.PyData.keyHash pr (PySem.Str.ofString "_law_beside"),
                key := PySem.Value.str (PySem.Str.ofString "_law_beside") 613, val := PySem.Value.ref 317 },
              { hash := PySem.PyData.keyHash pr (PySem.Str.ofString "_law_back"),
                key := PySem.Value.str (PySem.Str.ofString "_law_back") 622, val := PySem.Value.ref 324 },
              { hash := PySem.PyData.keyHash pr (PySem.Str.ofString "law"),
                key := PySem.Value.str (PySem.Str.ofString "law") 628, val := PySem.Value.ref 329 }]
noncomputable def o_glob (pr : Params) : Obj := { cls := .type "dict", data := .dict (es_glob pr) 49 }
noncomputable def o_ns (pr : Params) : Obj :=
  { cls := PySem.Value.type "dict",
        data :=
          PySem.Data.dict
            #[{ hash := PySem.PyData.keyHash pr (PySem.Str.ofString "__module__"),
                key := PySem.Value.str (PySem.Str.ofString "__module__") 411,
                val := PySem.Value.str (PySem.Str.ofString "passvote.counting") 402 },
              { hash := PySem.PyData.keyHash pr (PySem.Str.ofString "__firstlineno__"),
                key := PySem.Value.str (PySem.Str.ofString "__firstlineno__") 415, val := PySem.Value.int 90 414 },
              { hash := PySem.PyData.keyHash pr (PySem.Str.ofString "__init__"),
                key := PySem.Value.str (PySem.Str.ofString "__init__") 421, val := PySem.Value.ref 169 },
              { hash := PySem.PyData.keyHash pr (PySem.Str.ofString "step"),
                key := PySem.Value.str (PySem.Str.ofString "step") 427, val := PySem.Value.ref 174 },
              { hash := PySem.PyData.keyHash pr (PySem.Str.ofString "back"),
                key := PySem.Value.str (PySem.Str.ofString "back") 434, val := PySem.Value.ref 181 },
              { hash := PySem.PyData.keyHash pr (PySem.Str.ofString "standing"),
                key := PySem.Value.str (PySem.Str.ofString "standing") 441, val := PySem.Value.ref 188 },
              { hash := PySem.PyData.keyHash pr (PySem.Str.ofString "places"),
                key := PySem.Value.str (PySem.Str.ofString "places") 447, val := PySem.Value.ref 193 },
              { hash := PySem.PyData.keyHash pr (PySem.Str.ofString "left"),
                key := PySem.Value.str (PySem.Str.ofString "left") 454, val := PySem.Value.ref 200 },
              { hash := PySem.PyData.keyHash pr (PySem.Str.ofString "seats"),
                key := PySem.Value.str (PySem.Str.ofString "seats") 460, val := PySem.Value.ref 205 },
              { hash := PySem.PyData.keyHash pr (PySem.Str.ofString "__static_attributes__"),
                key := PySem.Value.str (PySem.Str.ofString "__static_attributes__") 466, val := PySem.Value.ref 206 },
              { hash := PySem.PyData.keyHash pr (PySem.Str.ofString "__dict__"),
                key := PySem.Value.str (PySem.Str.ofString "__dict__") 468, val := PySem.Value.ref 209 },
              { hash := PySem.PyData.keyHash pr (PySem.Str.ofString "__weakref__"),
                key := PySem.Value.str (PySem.Str.ofString "__weakref__") 470, val := PySem.Value.ref 210 },
              { hash := PySem.PyData.keyHash pr (PySem.Str.ofString "__doc__"),
                key := PySem.Value.str (PySem.Str.ofString "__doc__") 471, val := PySem.Value.none }]
            4 }
noncomputable def o_cls : Obj :=
  { cls := PySem.Value.type "type",
        data :=
          PySem.Data.cls
            { name := PySem.Str.ofString "Count", bases := [PySem.Value.type "object"],
              mro := [PySem.Value.ref 208, PySem.Value.type "object"], ns := 207, qualname := PySem.Str.ofString "Count" },
        slots :=
          #[none, none, some (PySem.Value.str (PySem.Str.ofString "Count") 404),
            some (PySem.Value.str (PySem.Str.ofString "Count") 412), some (PySem.Value.builtin "object.__new__"),
            some (PySem.Value.bool true)] }
noncomputable def fd_init : FuncData := { name := "__init__", qualname := "Count.__init__", params := fnArgs (methAt P 26 0), body := .stmts (fnBody (methAt P 26 0)), scope := fnScope (methAt P 26 0), globals := 3, closure := [], defaults := .none, kwdefaults := .none, pyModule := PySem.Value.str (PySem.Str.ofString "passvote.counting") 402, code := .ref 168 }
noncomputable def o_init : Obj := { cls := .type "function", data := .func fd_init }
noncomputable def k_init : Obj :=
  { cls := PySem.Value.type "code",
        data :=
          PySem.Data.fields
            #[PySem.Value.str (PySem.Str.ofString "__init__") 416, PySem.Value.str (PySem.Str.ofString "Count.__init__") 417,
              PySem.Value.str (PySem.Str.ofString "/claim/cut.py") 418, PySem.Value.int 92 0, PySem.Value.int 4 0,
              PySem.Value.int 0 0, PySem.Value.int 0 0, PySem.Value.int 3 0, PySem.Value.ref 165, PySem.Value.bool true,
              PySem.Value.int 181 0, PySem.Value.ref 166, PySem.Value.none, PySem.Value.none, PySem.Value.none,
              PySem.Value.ref 167, PySem.Value.int 419 0, PySem.Value.int 92 0,
              PySem.Value.str (PySem.Str.ofString "/claim/cut.py") 420] }
noncomputable def fd_step : FuncData := { name := "step", qualname := "Count.step", params := fnArgs (methAt P 26 1), body := .stmts (fnBody (methAt P 26 1)), scope := fnScope (methAt P 26 1), globals := 3, closure := [], defaults := .none, kwdefaults := .none, pyModule := PySem.Value.str (PySem.Str.ofString "passvote.counting") 402, code := .ref 173 }
noncomputable def o_step : Obj := { cls := .type "function", data := .func fd_step }
noncomputable def k_step : Obj :=
  { cls := PySem.Value.type "code",
        data :=
          PySem.Data.fields
            #[PySem.Value.str (PySem.Str.ofString "step") 422, PySem.Value.str (PySem.Str.ofString "Count.step") 423,
              PySem.Value.str (PySem.Str.ofString "/claim/cut.py") 424, PySem.Value.int 100 0, PySem.Value.int 1 0,
              PySem.Value.int 0 0, PySem.Value.int 0 0, PySem.Value.int 3 0, PySem.Value.ref 170, PySem.Value.bool true,
              PySem.Value.int 181 0, PySem.Value.ref 171, PySem.Value.none, PySem.Value.none, PySem.Value.none,
              PySem.Value.ref 172, PySem.Value.int 425 0, PySem.Value.int 100 0,
              PySem.Value.str (PySem.Str.ofString "/claim/cut.py") 426] }
noncomputable def fd_back : FuncData := { name := "back", qualname := "Count.back", params := fnArgs (methAt P 26 2), body := .stmts (fnBody (methAt P 26 2)), scope := fnScope (methAt P 26 2), globals := 3, closure := [], defaults := .none, kwdefaults := .none, pyModule := PySem.Value.str (PySem.Str.ofString "passvote.counting") 402, code := .ref 180 }
noncomputable def o_back : Obj := { cls := .type "function", data := .func fd_back }
noncomputable def k_back : Obj :=
  { cls := PySem.Value.type "code",
        data :=
          PySem.Data.fields
            #[PySem.Value.str (PySem.Str.ofString "back") 428, PySem.Value.str (PySem.Str.ofString "Count.back") 429,
              PySem.Value.str (PySem.Str.ofString "/claim/cut.py") 430, PySem.Value.int 124 0, PySem.Value.int 1 0,
              PySem.Value.int 0 0, PySem.Value.int 0 0, PySem.Value.int 3 0, PySem.Value.ref 175, PySem.Value.bool true,
              PySem.Value.int 181 0, PySem.Value.ref 176, PySem.Value.none, PySem.Value.ref 177, PySem.Value.ref 178,
              PySem.Value.ref 179, PySem.Value.int 432 0, PySem.Value.int 124 0,
              PySem.Value.str (PySem.Str.ofString "/claim/cut.py") 433] }
noncomputable def fd_standing : FuncData := { name := "standing", qualname := "Count.standing", params := fnArgs (methAt P 26 3), body := .stmts (fnBody (methAt P 26 3)), scope := fnScope (methAt P 26 3), globals := 3, closure := [], defaults := .none, kwdefaults := .none, pyModule := PySem.Value.str (PySem.Str.ofString "passvote.counting") 402, code := .ref 187 }
noncomputable def o_standing : Obj := { cls := .type "function", data := .func fd_standing }
noncomputable def k_standing : Obj :=
  { cls := PySem.Value.type "code",
        data :=
          PySem.Data.fields
            #[PySem.Value.str (PySem.Str.ofString "standing") 435, PySem.Value.str (PySem.Str.ofString "Count.standing") 436,
              PySem.Value.str (PySem.Str.ofString "/claim/cut.py") 437, PySem.Value.int 130 0, PySem.Value.int 1 0,
              PySem.Value.int 0 0, PySem.Value.int 0 0, PySem.Value.int 3 0, PySem.Value.ref 182, PySem.Value.bool true,
              PySem.Value.int 181 0, PySem.Value.ref 183, PySem.Value.none, PySem.Value.ref 184, PySem.Value.ref 185,
              PySem.Value.ref 186, PySem.Value.int 439 0, PySem.Value.int 130 0,
              PySem.Value.str (PySem.Str.ofString "/claim/cut.py") 440] }
noncomputable def fd_places : FuncData := { name := "places", qualname := "Count.places", params := fnArgs (methAt P 26 4), body := .stmts (fnBody (methAt P 26 4)), scope := fnScope (methAt P 26 4), globals := 3, closure := [], defaults := .none, kwdefaults := .none, pyModule := PySem.Value.str (PySem.Str.ofString "passvote.counting") 402, code := .ref 192 }
noncomputable def o_places : Obj := { cls := .type "function", data := .func fd_places }
noncomputable def k_places : Obj :=
  { cls := PySem.Value.type "code",
        data :=
          PySem.Data.fields
            #[PySem.Value.str (PySem.Str.ofString "places") 442, PySem.Value.str (PySem.Str.ofString "Count.places") 443,
              PySem.Value.str (PySem.Str.ofString "/claim/cut.py") 444, PySem.Value.int 133 0, PySem.Value.int 1 0,
              PySem.Value.int 0 0, PySem.Value.int 0 0, PySem.Value.int 3 0, PySem.Value.ref 189, PySem.Value.bool true,
              PySem.Value.int 181 0, PySem.Value.ref 190, PySem.Value.none, PySem.Value.none, PySem.Value.none,
              PySem.Value.ref 191, PySem.Value.int 445 0, PySem.Value.int 133 0,
              PySem.Value.str (PySem.Str.ofString "/claim/cut.py") 446] }
noncomputable def fd_left : FuncData := { name := "left", qualname := "Count.left", params := fnArgs (methAt P 26 5), body := .stmts (fnBody (methAt P 26 5)), scope := fnScope (methAt P 26 5), globals := 3, closure := [], defaults := .none, kwdefaults := .none, pyModule := PySem.Value.str (PySem.Str.ofString "passvote.counting") 402, code := .ref 199 }
noncomputable def o_left : Obj := { cls := .type "function", data := .func fd_left }
noncomputable def k_left : Obj :=
  { cls := PySem.Value.type "code",
        data :=
          PySem.Data.fields
            #[PySem.Value.str (PySem.Str.ofString "left") 448, PySem.Value.str (PySem.Str.ofString "Count.left") 449,
              PySem.Value.str (PySem.Str.ofString "/claim/cut.py") 450, PySem.Value.int 137 0, PySem.Value.int 1 0,
              PySem.Value.int 0 0, PySem.Value.int 0 0, PySem.Value.int 3 0, PySem.Value.ref 194, PySem.Value.bool true,
              PySem.Value.int 181 0, PySem.Value.ref 195, PySem.Value.none, PySem.Value.ref 196, PySem.Value.ref 197,
              PySem.Value.ref 198, PySem.Value.int 452 0, PySem.Value.int 137 0,
              PySem.Value.str (PySem.Str.ofString "/claim/cut.py") 453] }
noncomputable def fd_seats : FuncData := { name := "seats", qualname := "Count.seats", params := fnArgs (methAt P 26 6), body := .stmts (fnBody (methAt P 26 6)), scope := fnScope (methAt P 26 6), globals := 3, closure := [], defaults := .none, kwdefaults := .none, pyModule := PySem.Value.str (PySem.Str.ofString "passvote.counting") 402, code := .ref 204 }
noncomputable def o_seats : Obj := { cls := .type "function", data := .func fd_seats }
noncomputable def k_seats : Obj :=
  { cls := PySem.Value.type "code",
        data :=
          PySem.Data.fields
            #[PySem.Value.str (PySem.Str.ofString "seats") 455, PySem.Value.str (PySem.Str.ofString "Count.seats") 456,
              PySem.Value.str (PySem.Str.ofString "/claim/cut.py") 457, PySem.Value.int 140 0, PySem.Value.int 1 0,
              PySem.Value.int 0 0, PySem.Value.int 0 0, PySem.Value.int 3 0, PySem.Value.ref 201, PySem.Value.bool true,
              PySem.Value.int 181 0, PySem.Value.ref 202, PySem.Value.none, PySem.Value.none, PySem.Value.none,
              PySem.Value.ref 203, PySem.Value.int 458 0, PySem.Value.int 140 0,
              PySem.Value.str (PySem.Str.ofString "/claim/cut.py") 459] }
noncomputable def frag (pr : Params) : Frag := [(3, o_glob pr), (168, k_init), (169, o_init), (173, k_step), (174, o_step), (180, k_back), (181, o_back), (187, k_standing), (188, o_standing), (192, k_places), (193, o_places), (199, k_left), (200, o_left), (204, k_seats), (205, o_seats), (207, o_ns pr), (208, o_cls)]
noncomputable def adrs : List Addr := [3, 168, 169, 173, 174, 180, 181, 187, 188, 192, 193, 199, 200, 204, 205, 207, 208]
noncomputable def ca : CA := ⟨208, 169, 174, 181, 188, 193, 200, 205⟩
section
variable {prog : Program} {w : World} {h : Heap} {mg mb : Str → Option Value}
theorem cnt (KX : (frag w.params).In h) (G : h.Ns mainGlobals mg) : CountIs ⟨prog, w, h, mg, mb⟩ ca where
  mg := mg_of KX G (o := o_glob w.params) (es := es_glob w.params) (ep := 49) (by kernel_rfl) (by kernel_rfl) (x := "Count") (by kernel_rfl)
  made := ⟨_, KX, by kernel_rfl⟩
  attr := attr_all KX (by kernel_rfl)
  step := ⟨_, KX, by kernel_rfl⟩
  back := ⟨_, KX, by kernel_rfl⟩
  standing := ⟨_, KX, by kernel_rfl⟩
  places := ⟨_, KX, by kernel_rfl⟩
  left := ⟨_, KX, by kernel_rfl⟩
  seats := ⟨_, KX, by kernel_rfl⟩
  most := ⟨⟨273, mg_of KX G (o := o_glob w.params) (es := es_glob w.params) (ep := 49) (by kernel_rfl) (by kernel_rfl) (x := "MOST_CANDIDATES") (by kernel_rfl)⟩, ⟨275, mg_of KX G (o := o_glob w.params) (es := es_glob w.params) (ep := 49) (by kernel_rfl) (by kernel_rfl) (x := "MOST_BALLOTS") (by kernel_rfl)⟩, ⟨277, mg_of KX G (o := o_glob w.params) (es := es_glob w.params) (ep := 49) (by kernel_rfl) (by kernel_rfl) (x := "MOST_WEIGHT") (by kernel_rfl)⟩⟩
theorem at_init (KX : (frag w.params).In h) : FnAt ⟨prog, w, h, mg, mb⟩ ca.init (fnScope (methAt P 26 0)) ["self", "candidates", "ballots", "seats"] (fnBody (methAt P 26 0)) := fnAt_of KX (o := o_init) (fd := fd_init) (by kernel_rfl) rfl rfl rfl rfl rfl rfl (by kernel_rfl) (by kernel_rfl) rfl
theorem at_step (KX : (frag w.params).In h) : FnAt ⟨prog, w, h, mg, mb⟩ ca.step (fnScope (methAt P 26 1)) ["self"] (fnBody (methAt P 26 1)) := fnAt_of KX (o := o_step) (fd := fd_step) (by kernel_rfl) rfl rfl rfl rfl rfl rfl (by kernel_rfl) (by kernel_rfl) rfl
theorem at_back (KX : (frag w.params).In h) : FnAt ⟨prog, w, h, mg, mb⟩ ca.back (fnScope (methAt P 26 2)) ["self"] (fnBody (methAt P 26 2)) := fnAt_of KX (o := o_back) (fd := fd_back) (by kernel_rfl) rfl rfl rfl rfl rfl rfl (by kernel_rfl) (by kernel_rfl) rfl
theorem at_standing (KX : (frag w.params).In h) : FnAt ⟨prog, w, h, mg, mb⟩ ca.standing (fnScope (methAt P 26 3)) ["self"] (fnBody (methAt P 26 3)) := fnAt_of KX (o := o_standing) (fd := fd_standing) (by kernel_rfl) rfl rfl rfl rfl rfl rfl (by kernel_rfl) (by kernel_rfl) rfl
theorem at_places (KX : (frag w.params).In h) : FnAt ⟨prog, w, h, mg, mb⟩ ca.places (fnScope (methAt P 26 4)) ["self"] (fnBody (methAt P 26 4)) := fnAt_of KX (o := o_places) (fd := fd_places) (by kernel_rfl) rfl rfl rfl rfl rfl rfl (by kernel_rfl) (by kernel_rfl) rfl
theorem at_left (KX : (frag w.params).In h) : FnAt ⟨prog, w, h, mg, mb⟩ ca.left (fnScope (methAt P 26 5)) ["self"] (fnBody (methAt P 26 5)) := fnAt_of KX (o := o_left) (fd := fd_left) (by kernel_rfl) rfl rfl rfl rfl rfl rfl (by kernel_rfl) (by kernel_rfl) rfl
theorem at_seats (KX : (frag w.params).In h) : FnAt ⟨prog, w, h, mg, mb⟩ ca.seats (fnScope (methAt P 26 6)) ["self"] (fnBody (methAt P 26 6)) := fnAt_of KX (o := o_seats) (fd := fd_seats) (by kernel_rfl) rfl rfl rfl rfl rfl rfl (by kernel_rfl) (by kernel_rfl) rfl
end
end L06
end
namespace L06
section
variable {X : Cx} {c : CA} (H : Has X c)
include H
theorem hasCell : HasCell X := fun hl h0 h1 q => call_law_cell H (cell_spec hl h0 h1 q)
theorem hasWhole : HasWhole X := fun q => call_law_whole H (whole_spec q)
theorem hasWeight : HasWeight X := fun h0 h1 q => call_law_weight H (weight_spec h0 h1 q)
theorem hasRow : HasRow X := fun hk q => call_law_row H (row_spec hk q)
theorem hasCand : HasCand X := fun hl q => call_law_candidates H (candidates_spec (hasCell H) hl q)
theorem hasBal : HasBal X := fun hl hk q => call_law_ballots H (ballots_spec (hasCell H) (hasWeight H) (hasRow H) hl hk q)
theorem hasAllw : HasAllw X := fun hB q => call_all_weights H (allw_spec hB q)
theorem hasQuota : HasQuota X := fun hB h0 h1 q => call_quota H (quota_spec (hasAllw H) hB h0 h1 q)
theorem hasPlaceT : HasPlaceT X := fun q => call_place_of H (placeT_spec q)
theorem hasHeld : HasHeld X := fun hk hin q => call_held H (held_spec hk hin q)
theorem hasMost : HasMost X := fun hl hst q => call_most_held H (most_spec hl hst q)
theorem hasLeast : HasLeast X := fun hl hst q => call_least_held H (least_spec hl hst q)
theorem hasDeed : HasDeed X := fun hl hsl hst q => call_deed_of H (deed_spec (hasMost H) (hasLeast H) hl hsl hst q)
theorem hasParts : HasParts X := fun hl hw hs q => call_parts H (parts_spec hl hw hs q)
theorem hasWhole3 : HasWhole3 X := fun h0 h1 q => call_is_whole H (whole3_spec h0 h1 q)
theorem hasIsRow : HasIsRow X := fun hk hr q => call_is_row H (is_row_spec (hasWhole3 H) hk hr q)
theorem hasIsBallot : HasIsBallot X := fun hk h0 h1 hr q => call_is_ballot H (is_ballot_spec (hasWhole3 H) (hasIsRow H) H.cnt.most.2.2 hk h0 h1 hr q)
theorem hasNeed : HasNeed X := fun hk0 hk hs0 hs hB q => call_need_vote H (need_vote_spec (hasWhole3 H) (hasIsBallot H) H.cnt.most.1 H.cnt.most.2.1 hk0 hk hs0 hs hB q)
theorem hasPlaces : HasPlaces X c := fun h hs hl hB q => call_Count_places H (places_spec (hasPlaceT H) H.cnt h hs hl hB q)
theorem hasPlacesT : HasPlacesT X c := fun h hs hl hB q => call_Count_placesT H (placesT_spec (hasPlaceT H) H.cnt h hs hl hB q)
theorem hasLeftT : HasLeftT X c := fun h hs hl hll q => call_Count_leftT H (leftT_spec H.cnt h hs hl hll q)
theorem hasStep : HasStep X c := fun h hs hl hk hB hs0 hs1 hr hg q0 q1 => call_Count_step H (step_spec (hasPlaces H) (hasHeld H) (hasDeed H) (hasParts H) H.cnt h hs hl hk hB hs0 hs1 hr hg q0 q1)
theorem hasLeft : HasLeft X c := fun h hs hl hll q => call_Count_left H (left_spec H.cnt h hs hl hll q)
theorem hasSeats : HasSeats X c := fun h hs hl hf hb q => call_Count_seats H (seats_spec H.cnt h hs hl hf hb q)
end
noncomputable def tD (l : List (Int × List D)) (as : List Addr) : List D := (l.zip as).map fun p => .tup [.int p.1.1, .ref p.2]
structure TL (σ : Sg) (l : List (Int × List D)) (as : List Addr) : Prop where
  len : as.length = l.length
  one : ∀ i (h : i < l.length) (h' : i < as.length), σ as[i] = some (.list l[i].2)
theorem TL.mono {σ σ' : Sg} {l : List (Int × List D)} {as : List Addr} (h : TL σ l as) (k : ∀ a ∈ as, ∀ t, σ a = some t → σ' a = some t) : TL σ' l as := ⟨h.len, fun i h1 h2 => k _ (List.getElem_mem h2) _ (h.one i h1 h2)⟩
theorem tD_len {l : List (Int × List D)} {as : List Addr} (h : as.length = l.length) : (tD l as).length = l.length := by unfold tD; rw [List.length_map, List.length_zip, h, Nat.min_self]
theorem TL.der {σ : Sg} {l : List (Int × List D)} {as : List Addr} (h : TL σ l as) : DerAll σ (tD l as) (l.map fun x => .tup [.int x.1, .lst x.2]) := by
  have e : (l.map fun x => D.tup [.int x.1, .lst x.2]) = (l.zip as).map fun p => .tup [.int p.1.1, .lst p.1.2] := by
    have hz : (l.zip as).map (·.1) = l := List.map_fst_zip (by rw [h.len]; exact Nat.le_refl _)
    conv => lhs; rw [← hz, List.map_map]
    rfl
  rw [e]
  refine DerAll.map fun p hp => ?_
  obtain ⟨i, hi, rfl⟩ := List.getElem_of_mem hp
  have hl : i < l.length := by rw [List.length_zip] at hi; omega
  have hp : i < as.length := by rw [List.length_zip] at hi; omega
  rw [List.getElem_zip]
  exact .tup (.cons (.same _) (.cons (.ref (h.one i hl hp) (DerAll.same _)) .nil))
noncomputable def Ext (σ σ' : Sg) : Prop := ∀ x t, σ x = some t → σ' x = some t
theorem Ext.refl (σ : Sg) : Ext σ σ := fun xx xx h => h
theorem Ext.trans {σ σ' σ'' : Sg} (h : Ext σ σ') (h' : Ext σ' σ'') : Ext σ σ'' := fun x t e => h' x t (h x t e)
theorem Ext.put {σ : Sg} {a : Addr} {t : TObj} (h : σ a = none) : Ext σ (σ.put a t) := fun x t e => by
  rw [Sg.put_ne (fun q => by rw [q, h] at e; cases e)]; exact e
theorem Ext.keep {σ σ' : Sg} (h : Ext σ σ') : ∀ b, σ b ≠ none → σ' b ≠ none := fun b hb => by
  cases e : σ b with
  | none => exact absurd e hb
  | some t => rw [h b t e]; simp
theorem CntAt.ext {c : CA} {σ σ' : Sg} {a dx b : Addr} {k : Nat} {B : List (Int × List Int)} {s : Int} {sts : List St} (h : CntAt c σ a dx b k B s sts) (e : Ext σ σ') : CntAt c σ' a dx b k B s sts := ⟨e _ _ h.ins, e _ _ h.ns, e _ _ h.lst⟩

section
variable {X : Cx} {c : CA} {n : Nat} {σ : Sg} {k : Nat} {B : List (Int × List Int)} {s : Int}
theorem comp_tr {u : MV} {e : E} (he : e = .tupE [(.var 1), (.track (.ofSeq (.seq (.var 2))))]) : ∀ (l : List (Int × List D)) (σ : Sg) (Q : List D → Sg → Prop), (∀ x ∈ l, x.2.length ≤ 1000) →
    (∀ as σ', TL σ' l as → as.Nodup → (∀ a ∈ as, σ a = none) → Ext σ σ' → Q (tD l as) σ') →
    compT (mCond X n none) (e X n) [u, .unb, .unb] [1, 2] (l.map fun x => [.int x.1, .lst x.2]) σ Q
  | [], σ, Q, _, q => q [] σ ⟨rfl, fun xx h => absurd h (Nat.not_lt_zero _)⟩ List.nodup_nil (fun xx h => by cases h) (Ext.refl _)
  | x :: l, σ, Q, hb, q => by
    have h1 := hb x List.mem_cons_self
    subst he
    simp only [List.map_cons, compT, cd_none, cond_bool, if_true, ev_nil, ev_cons, E.var, E.track, E.tupE, L.ofSeq, It.seq, q_val, q_one, setAll, g_z, g_s, List.set_cons_zero, List.set_cons_succ, ln_2, List.length_map, map_headD]
    refine ⟨by first | with_reducible exact oo3 ‹_› | omega, fun a ha => ⟨by decide, ?_⟩⟩
    refine comp_tr rfl l (σ.put a (.list x.2)) _ (fun y hy => hb y (List.mem_cons_of_mem _ hy)) fun as σ' h nd fr kp => ?_
    have ne : ∀ b ∈ as, b ≠ a := fun b hb e => by have := fr b hb; rw [e, Sg.put_self] at this; cases this
    refine q (a :: as) σ' ⟨by rw [List.length_cons, List.length_cons, h.len], fun i hi hi' => ?_⟩ (List.nodup_cons.mpr ⟨fun hm => ne a hm rfl, nd⟩) (fun b hb => ?_) ((Ext.put ha).trans kp)
    · cases i with
      | zero => exact kp a _ (Sg.put_self _ _ _)
      | succ i => exact h.one i (Nat.lt_of_succ_lt_succ hi) (Nat.lt_of_succ_lt_succ hi')
    · rcases List.mem_cons.mp hb with rfl | hb
      · exact ha
      · have := fr b hb; rw [Sg.put_ne (ne b hb)] at this; exact this

noncomputable def bL (B : List (Int × List Int)) : List (Int × List D) := B.map fun b => (b.1, b.2.map D.int)
noncomputable def fLs (f : List (Int × List (Int × Int))) : List (Int × List D) := f.map fun x => (x.1, dBe x.2)
theorem bL_d : ((bL B).map fun x => D.tup [.int x.1, .lst x.2]) = dB B := by unfold bL dB; rw [List.map_map]; rfl
theorem fLs_d {f : List (Int × List (Int × Int))} : ((fLs f).map fun x => D.tup [.int x.1, .lst x.2]) = dFil f := by unfold fLs dFil; rw [List.map_map]; rfl
theorem bL_r : ((bL B).map fun x => [D.int x.1, .lst x.2]) = B.map fun b => [.int b.1, .lst (b.2.map D.int)] := by unfold bL; rw [List.map_map]; rfl
theorem fLs_r {f : List (Int × List (Int × Int))} : ((fLs f).map fun x => [D.int x.1, .lst x.2]) = f.map fun x => [.int x.1, .lst (dBe x.2)] := by unfold fLs; rw [List.map_map]; rfl

theorem copy_specT (H : Has X c) {Q : D → Sg → Prop} (hk : k ≤ 100) (hB : Bal k B) (q : ∀ a as σ', σ' a = some (.list (tD (bL B) as)) → TL σ' (bL B) as → (a :: as).Nodup → (∀ x ∈ a :: as, σ x = none) → Ext σ σ' → Q (.ref a) σ') :
    CallSem X (n + 1) "_law_copy" [.lst (dB B)] σ Q := by
  have hBl := hB.len
  apply call_law_copy H
  simp only [m_law_copy]
  rw [ms_cons]
  simp only [E.var, L.comp, It.seq, S.ret, q_val, E.track, flD, g_z, ln_2, ms_nil]
  refine rows2 ⟨by simp; (first | with_reducible exact oo3 ‹_› | omega), ?_⟩
  rw [← bL_r]
  refine comp_tr rfl (bL B) σ _ (fun x hx => ?_) fun as σ' h nd fr kp a ha => ?_
  · obtain ⟨b, hb, rfl⟩ := List.mem_map.mp hx
    have := (hB.row b hb).len
    rw [List.length_map]; (first | with_reducible exact ooc ‹_› ‹_› | omega)
  have ne : ∀ b ∈ as, b ≠ a := fun b hb e => by
    obtain ⟨i, hi, rfl⟩ := List.getElem_of_mem hb
    have := h.one i (by rw [← h.len]; exact hi) hi
    rw [e, ha] at this; cases this
  have e2 : Ext σ' (σ'.put a (.list (tD (bL B) as))) := Ext.put ha
  have hs : σ a = none := by
    cases e : σ a with
    | none => rfl
    | some t => rw [kp a t e] at ha; cases ha
  refine ⟨(kp.trans e2).keep, q a as _ (Sg.put_self _ _ _) (h.mono fun b xx t e => e2 b t e) (List.nodup_cons.mpr ⟨fun hm => ne a hm rfl, nd⟩) (fun x hx => ?_) (kp.trans e2)⟩
  rcases List.mem_cons.mp hx with rfl | hx
  · exact hs
  · exact fr x hx
end
end L06
namespace L06
mutual
theorem der_mono {σ σ' : Sg} (hs : ∀ b ds, σ b = some (.list ds) → σ' b = some (.list ds)) : ∀ {d e : D}, Der σ d e → Der σ' d e
  | _, _, .same d => .same d
  | _, _, .ref h q => .ref (hs _ _ h) (derA_mono hs q)
  | _, _, .tup q => .tup (derA_mono hs q)
  | _, _, .lst q => .lst (derA_mono hs q)
theorem derA_mono {σ σ' : Sg} (hs : ∀ b ds, σ b = some (.list ds) → σ' b = some (.list ds)) : ∀ {ds es : List D}, DerAll σ ds es → DerAll σ' ds es
  | _, _, .nil => .nil
  | _, _, .cons h q => .cons (der_mono hs h) (derA_mono hs q)
end
noncomputable def noK : Addr → Bool := fun xx => false
theorem off_no (σ : Sg) : σ.off noK = σ := by funext b; exact Sg.off_f (by simp [noK])
theorem mix_no (σ σ' : Sg) : (fun b => if noK b = true then σ' b else σ b) = σ := by funext b; simp [noK]
theorem noL_ints (ns : List Int) : D.noLs (ns.map D.int) = true := noLs_all fun d hd => by obtain ⟨i, _, rfl⟩ := List.mem_map.mp hd; rfl
theorem noL_tups (B : List (Int × List Int)) : D.noLs (B.map fun x => D.tup (x.2.map D.int)) = true := noLs_all fun d hd => by
  obtain ⟨x, _, rfl⟩ := List.mem_map.mp hd
  exact noL_ints x.2

section
variable {X : Cx} {c : CA} {n : Nat} {σ : Sg} {k : Nat} {B : List (Int × List Int)} {s : Int} {a dx b : Addr} {sts : List St} {st : St}
theorem init_specT (H : Has X c) {d : D} {Q : D → Sg → Prop} (ha : σ a = some (.inst c.C dx)) (hd : σ dx = some (.ns [])) (hder : Der σ d (.lst (dB B))) (hk0 : 1 ≤ k) (hk : k ≤ 12) (hs0 : 1 ≤ s) (hs : s ≤ k) (hB : Bal k B)
    (q : ∀ σ' b, CntAt c σ' a dx b k B s [st0 k B] → σ b = none → (∀ x, x ≠ dx → x ≠ b → σ' x = σ x) → Q .none σ') :
    CallA X (n + 1 + 1 + 1 + 1 + 1) (.ref c.init) [.ref a, .int k, d, .int s] σ Q := by
  have hBl := hB.len
  have hc := H.cnt
  have hdl : (dB B).length = B.length := by simp [dB]
  apply call_Count_init H
  simp only [m_Count_init]
  rw [ms_cons]
  simp only [ev_nil, ev_cons, E.var, E.call, S.expr, fa_n, Mine.S.lendA, flD]
  refine ⟨noK, [.lst (dB B)], ⟨by rw [off_no]; exact hder, trivial⟩, (fun b h => by cases h), fun vs => ?_⟩
  simp only [q_pin, pn_n, pn_c, p1_v, p1_u, ra_n, ra_c, r1_p, r1_u, pk_n, pk_p, pk_u, setAll, g_z, g_s, List.set_cons_zero, List.set_cons_succ, true_and, and_true, Nat.reduceAdd]
  refine hasNeed H hk0 hk hs0 hs hB ?_
  rw [mix_no]
  refine ⟨(fun b h => by cases h), ?_⟩
  rw [ms_cons]
  simp only [E.var, q_val, S.setA, g_z, g_s]
  refine x_setA hc ha hd rfl rfl (by simp) (fun σ' => mExecs X _ _ _ σ' _) fun σ1 ha1 hd1 k1 o1 => ?_
  rw [ms_cons]
  simp only [E.var, q_val, S.setA, g_z, g_s]
  refine x_setA hc ha1 hd1 rfl (by kernel_rfl) (by simp) (fun σ' => mExecs X _ _ _ σ' _) fun σ2 ha2 hd2 k2 o2 => ?_
  have lift : ∀ {σ' : Sg}, (∀ x, x ≠ dx → σ' x = σ x) → Der σ' d (.lst (dB B)) := fun {σ'} h => der_mono (fun b ds e => by rw [h b (fun q => by rw [q, hd] at e; cases e)]; exact e) hder
  have p2 : ∀ x, x ≠ dx → σ2 x = σ x := fun x hx => (o2 x hx).trans (o1 x hx)
  rw [ms_cons]
  simp only [ev_nil, ev_cons, E.var, E.call, q_val, S.setA, E.lendE, g_z]
  refine ⟨[.lst (dB B)], ⟨lift p2, trivial⟩, ?_⟩
  simp only [q_val, setAll, g_z, g_s, List.set_cons_zero, List.set_cons_succ]
  refine hasQuota H (by first | with_reducible exact oo3 ‹_› | omega) (by first | with_reducible exact oop ‹_› | omega) (by omega) ?_
  refine ⟨rfl, ?_⟩
  refine x_setA hc ha2 hd2 rfl (by kernel_rfl) (by simp) (fun σ' => mExecs X _ _ _ σ' _) fun σ3 ha3 hd3 k3 o3 => ?_
  have p3 : ∀ x, x ≠ dx → σ3 x = σ x := fun x hx => (o3 x hx).trans (p2 x hx)
  have eB : ((dB B).map fun d => [d]) = B.map fun b => [.tup [.int b.1, .lst (b.2.map D.int)]] := by rw [dB, List.map_map]; rfl
  rw [ms_cons]
  simp only [E.var, E.lst, L.comp, It.seq, q_val, S.setA, L.lendL, g_z, ln_1]
  refine ⟨[.lst (dB B)], ⟨lift p3, trivial⟩, ?_⟩
  simp only [q_val, q_one, setAll, g_z, g_s, List.set_cons_zero, List.set_cons_succ, List.length_map]
  refine ⟨by first | with_reducible exact oo9 ‹_› ‹_› | omega, ?_⟩
  rw [eB]
  refine comp_l _ (fun xx => true) (fun x => .tup (x.2.map D.int)) B (fun x hx K hK => hK) (fun x hx xx K hK => ?_) ?_
  · have := (hB.row x hx).len
    simp only [e_Count_init_1]
    simp only [ev_nil, ev_cons, E.cst, E.var, E.idx, E.bi, q_val, f_tuple1, t_1, setAll, g_z, g_s, List.set_cons_zero, List.set_cons_succ, List.length_map]
    exact ⟨by first | with_reducible exact ooc ‹_› ‹_› | omega, hK⟩
  rw [filter_all]
  refine ⟨noL_tups B, ?_⟩
  refine x_setA hc ha3 hd3 rfl (by kernel_rfl) (by simp) (fun σ' => mExecs X _ _ _ σ' _) fun σ4 ha4 hd4 k4 o4 => ?_
  have p4 : ∀ x, x ≠ dx → σ4 x = σ x := fun x hx => (o4 x hx).trans (p3 x hx)
  rw [ms_cons]
  simp only [ev_nil, ev_cons, E.var, E.lst, E.tupE, L.disp, L.ofSeq, L.comp, It.seq, It.range, q_val, q_int, E.track, S.setA, L.lendL, g_z, g_s, ln_0, ln_1, List.length_map, true_and, ms_nil]
  refine ⟨by first | with_reducible exact oo2 _ | omega, by first | with_reducible exact oo5 ‹_› | omega, by simp; (first | with_reducible exact oo3 ‹_› | omega), ?_⟩
  refine ⟨[.lst (dB B)], ⟨lift p4, trivial⟩, ?_⟩
  simp only [q_val, q_one, setAll, g_z, g_s, List.set_cons_zero, List.set_cons_succ, List.length_map]
  refine ⟨by first | with_reducible exact oo9 ‹_› ‹_› | omega, ?_⟩
  rw [eB]
  refine comp_l _ (fun xx => true) (fun x => .int x.1) B (fun x hx K hK => hK) (fun x hx xx K hK => ?_) ?_
  · simp only [e_Count_init_2]
    simp only [E.cst, E.var, E.idx, q_val, t_0, setAll, g_z, g_s, List.set_cons_zero, List.set_cons_succ]
    exact hK
  have e2 : (B.filter fun xx => true).map (fun b => D.int b.1) = (B.map (·.1)).map D.int := by rw [filter_all, List.map_map]; rfl
  have e3 : List.map (fun r : List D => r.headD .none) (List.map (fun (j : Nat) => [D.int (j : Int)]) (List.range (k : Int).toNat)) = ((List.range k).map fun (j : Nat) => (j : Int)).map D.int := by
    rw [List.map_map, List.map_map, Int.toNat_natCast]
    rfl
  rw [e2]
  simp only [e3]
  refine ⟨noL_ints _, by decide, Nat.le_of_ble_eq_true rfl, Nat.le_of_ble_eq_true rfl, fun b hb => ?_⟩
  have hba : a ≠ b := fun e => by rw [← e, ha4] at hb; cases hb
  have hbd : dx ≠ b := fun e => by rw [← e, hd4] at hb; cases hb
  refine x_setA hc (dx := dx) (a := a) (by rw [Sg.put_ne hba]; exact ha4) (by rw [Sg.put_ne hbd]; exact hd4) rfl (by kernel_rfl) (by simp) (fun σ' => (∀ b, σ b ≠ none → σ' b ≠ none) ∧ Q .none σ') fun σ5 ha5 hd5 k5 o5 => ?_
  have p5 : ∀ x, x ≠ dx → x ≠ b → σ5 x = σ x := fun x hx hx' => by rw [o5 x hx, Sg.put_ne hx', p4 x hx]
  have hbn : σ b = none := by rw [← p4 b (Ne.symm hbd)]; exact hb
  refine ⟨fun x hx => ?_, q σ5 b ⟨ha5, ?_, ?_⟩ hbn p5⟩
  · by_cases e1 : x = dx
    · rw [e1, hd5]; simp
    · by_cases e2 : x = b
      · rw [e2] at hx; exact absurd hbn hx
      · rw [p5 x e1 e2]; exact hx
  · rw [hd5]; rfl
  · rw [o5 b (Ne.symm hbd), Sg.put_self]; rfl

theorem back_spec (H : Has X c) (h : CntAt c σ a dx b k B s sts) {Q : D → Sg → Prop} (hl : sts.length ≤ 1000) (hne : sts ≠ []) (q0 : sts.length = 1 → Q (.bool false) σ) (q1 : ∀ l x, sts = l ++ [x] → l ≠ [] → Q (.bool true) (σ.put b (.list (l.map dSt)))) :
    CallA X (n + 1) (.ref c.back) [.ref a] σ Q := by
  have hc := H.cnt
  apply call_Count_back H
  simp only [m_Count_back]
  rw [ms_cons]
  simp only [E.cst, E.var, E.cmp, S.iff, q_val, E.attr, E.lenT, c_eq, cond_bool, flD, g_z, decide_eq_true_eq, ms_nil]
  refine x_attr hc h rfl lk_states ⟨b, _, rfl, h.lst, by rw [List.length_map]; (first | with_reducible exact oo3 ‹_› | omega), ?_⟩
  simp only [List.length_map]
  by_cases e : (sts.length : Int) = 1
  · rw [if_pos e]
    rw [ms_cons]
    simp only [E.cst, S.ret, keepS, true_and, ms_nil]
    exact q0 (by omega)
  · rw [if_neg e]
    obtain ⟨l, x, hlx⟩ : ∃ l x, sts = l ++ [x] := ⟨sts.dropLast, sts.getLast hne, (List.dropLast_concat_getLast hne).symm⟩
    subst hlx
    rw [List.length_append, List.length_singleton] at hl e
    rw [ms_cons]
    simp only [E.var, S.expr, q_val, E.attr, E.popT, g_z]
    refine x_attr hc h rfl lk_states ⟨b, l.map dSt, dSt x, rfl, by rw [h.lst, List.map_append]; rfl, by rw [List.length_map]; omega, ?_⟩
    rw [ms_cons]
    simp only [E.cst, S.ret, ms_nil]
    exact ⟨keep_put _ _ _, q1 l x rfl fun e' => by subst e'; simp at e⟩

theorem standing_spec (H : Has X c) (h : CntAt c σ a dx b k B s sts) {Q : D → Sg → Prop} (hs : sts.getLast? = some st) (hl : sts.length ≤ 1000) (hll : st.std.length ≤ 1000) (q : Q (.lst (st.std.map D.int)) σ) : CallA X (n + 1) (.ref c.standing) [.ref a] σ Q := by
  apply call_Count_standing H
  simp only [m_Count_standing]
  rw [ms_cons]
  simp only [E.cst, E.var, E.lst, E.idx, L.ofSeq, It.seq, S.ret, q_val, E.attr, E.last, keepS, flD, g_z, true_and, ms_nil]
  refine x_attr H.cnt h rfl lk_states (x_last h hs hl ?_)
  simp only [dSt]
  simp only [q_one, t_0, List.length_map, map_headD]
  exact ⟨by first | with_reducible exact oo3 ‹_› | omega, q⟩
theorem standing_specT (H : Has X c) (h : CntAt c σ a dx b k B s sts) {Q : D → Sg → Prop} (hs : sts.getLast? = some st) (hl : sts.length ≤ 1000) (hll : st.std.length ≤ 1000) (q : ∀ a', σ a' = none → Q (.ref a') (σ.put a' (.list (st.std.map D.int)))) : CallA X (n + 1) (.ref c.standing) [.ref a] σ Q := by
  apply call_Count_standingT H
  simp only [m_Count_standingT]
  rw [ms_cons]
  simp only [E.cst, E.var, E.idx, L.ofSeq, It.seq, S.ret, q_val, E.attr, E.track, E.last, flD, g_z, ms_nil]
  refine x_attr H.cnt h rfl lk_states (x_last h hs hl ?_)
  simp only [dSt]
  simp only [q_one, t_0, List.length_map, map_headD]
  exact ⟨by first | with_reducible exact oo3 ‹_› | omega, fun a' ha' => ⟨keep_put _ _ _, q a' ha'⟩⟩
theorem seats_specT (H : Has X c) (h : CntAt c σ a dx b k B s sts) {Q : D → Sg → Prop} (hs : sts.getLast? = some st) (hl : sts.length ≤ 1000) (hf : st.fil.length ≤ 1000) (hb : ∀ f ∈ st.fil, f.2.length ≤ 1000)
    (q : ∀ a' as σ', σ' a' = some (.list (tD (fLs st.fil) as)) → TL σ' (fLs st.fil) as → (a' :: as).Nodup → (∀ x ∈ a' :: as, σ x = none) → Ext σ σ' → Q (.ref a') σ') : CallA X (n + 1) (.ref c.seats) [.ref a] σ Q := by
  apply call_Count_seatsT H
  simp only [m_Count_seatsT]
  rw [ms_cons]
  simp only [E.cst, E.var, E.idx, L.comp, It.seq, S.ret, q_val, E.attr, E.track, E.last, flD, g_z, ln_2, ms_nil]
  refine x_attr H.cnt h rfl lk_states (x_last h hs hl ?_)
  simp only [dSt]
  simp only [t_2]
  have e0 : dFil st.fil = (st.fil.map fun x => [.int x.1, .lst (dBe x.2)]).map D.tup := by simp [dFil, List.map_map, Function.comp]
  refine ⟨by decide, st.fil.map fun x => [.int x.1, .lst (dBe x.2)], by rw [e0], ?_, by simp; (first | with_reducible exact oo3 ‹_› | omega), ?_⟩
  · intro r hr
    obtain ⟨x, _, rfl⟩ := List.mem_map.mp hr
    rfl
  rw [← fLs_r]
  refine comp_tr rfl (fLs st.fil) σ _ (fun x hx => ?_) fun as σ' h nd fr kp a ha => ?_
  · obtain ⟨f, hf', rfl⟩ := List.mem_map.mp hx
    rw [dBe_len]; exact hb f hf'
  have ne : ∀ b ∈ as, b ≠ a := fun b hb e => by
    obtain ⟨i, hi, rfl⟩ := List.getElem_of_mem hb
    have := h.one i (by rw [← h.len]; exact hi) hi
    rw [e, ha] at this; cases this
  have e2 : Ext σ' (σ'.put a (.list (tD (fLs st.fil) as))) := Ext.put ha
  have hs : σ a = none := by
    cases e : σ a with
    | none => rfl
    | some t => rw [kp a t e] at ha; cases ha
  refine ⟨(kp.trans e2).keep, q a as _ (Sg.put_self _ _ _) (h.mono fun b xx t e => e2 b t e) (List.nodup_cons.mpr ⟨fun hm => ne a hm rfl, nd⟩) (fun x hx => ?_) (kp.trans e2)⟩
  rcases List.mem_cons.mp hx with rfl | hx
  · exact hs
  · exact fr x hx
end
end L06
namespace L06
section
variable {X : Cx} {c : CA} {n : Nat} {σ : Sg}
theorem lplace_spec (H : Has X c) {row st : List Int} {Q : D → Sg → Prop} (hl : row.length ≤ 1000) (q : Q (dO (placeV row st)) σ) : CallSem X (n + 1) "_law_place" [.lst (row.map D.int), .lst (st.map D.int)] σ Q := by
  apply call_law_place H
  simp only [m_law_place]
  rw [ms_cons]
  simp only [E.var, E.lst, L.comp, It.seq, S.asg, q_val, q_one, flD, g_z, List.set_cons_zero, List.set_cons_succ, ln_1, List.length_map]
  refine ⟨by first | with_reducible exact oo3 ‹_› | omega, comp_ints row (fun x => decide (x ∈ st)) D.int (fun x hx K hK => ?_) (fun x hx xx K hK => ?_) ?_⟩
  · simp only [p_law_place_1]
    simp only [cd_some, E.var, E.cmp, q_val, setAll, g_z, g_s, List.set_cons_zero, List.set_cons_succ]
    simp only [c_in, any_int]
    exact ⟨rfl, ok_ints 8 st, hK⟩
  · simp only [e_law_place_1]
    simp only [E.var, q_val, setAll, g_z, g_s, List.set_cons_zero, List.set_cons_succ]
    exact hK
  rw [ms_cons]
  simp only [ev_nil, E.var, E.cmp, E.lst, L.disp, S.iff, q_val, cond_bool, g_z, g_s, ln_0, ms_nil]
  have hf : (row.filter fun x => decide (x ∈ st)).head? = placeV row st := List.head?_filter
  generalize row.filter (fun x => decide (x ∈ st)) = fs at *
  have e := eqv_ints fs []
  simp only [List.map_nil] at e
  simp only [c_eqx, e]
  refine ⟨by decide, ok_ints 7 fs, rfl, ?_⟩
  cases fs with
  | nil =>
    simp only [decide_true, if_true]
    rw [ms_cons]
    simp only [E.cst, S.ret, keepS, true_and, ms_nil]
    rw [← hf] at q
    exact q
  | cons y ys =>
    simp only [reduceCtorEq, decide_false, Bool.false_eq_true, if_false, List.map_cons]
    rw [ms_cons]
    simp only [E.cst, E.var, E.idx, S.ret, q_val, i_0, keepS, g_z, g_s, true_and, ms_nil]
    rw [← hf] at q
    exact q

theorem gather_spec (H : Has X c) {x : Int} {ps : List (Option Int)} {ls : List Int} {Q : D → Sg → Prop} (hl : ps.length = ls.length) (hb : ps.length ≤ 1000) (q : Q (.int ((lyingF ps x).map fun i => ls.getD i 0).sum) σ) :
    CallSem X (n + 1) "_law_gather" [.int x, .lst (ps.map dO), .lst (ls.map D.int)] σ Q := by
  apply call_law_gather H
  simp only [m_law_gather]
  rw [ms_cons]
  simp only [E.cst, S.asg, flD, List.set_cons_zero, List.set_cons_succ]
  rw [ms_cons]
  simp only [ev_nil, ev_cons, E.var, E.bi, It.range, S.for_, q_val, q_int, f_len, g_z, g_s, ln_1, List.length_map, true_and]
  refine ⟨by first | with_reducible exact oo3 ‹_› | omega, by first | with_reducible exact oo2 _ | omega, by first | with_reducible exact oo5 ‹_› | omega, ?_⟩
  refine for_inv (fun j ρ σ' => σ' = σ ∧ ∃ (a : MV), ρ = [.val (.int x), .val (.lst (ps.map dO)), .val (.lst (ls.map D.int)), .val (.int (((List.range j).filter fun i => decide (ps.getD i none = some x)).map fun i => ls.getD i 0).sum), a]) ?_ ?_ ?_
  · exact ⟨rfl, .unb, rfl⟩
  · rintro j hj ρ σ' ⟨rfl, a, rfl⟩
    simp only [List.length_map, List.length_range, Int.toNat_natCast] at hj
    have e : ((List.range (j + 1)).filter fun i => decide (ps.getD i none = some x)).map (fun i => ls.getD i 0) = ((List.range j).filter fun i => decide (ps.getD i none = some x)).map (fun i => ls.getD i 0) ++ if ps.getD j none = some x then [ls.getD j 0] else [] := by
      rw [List.range_succ, List.filter_append, List.map_append]
      by_cases h : ps.getD j none = some x
      · rw [if_pos h]; simp only [List.filter_cons, List.filter_nil, h, decide_true, if_true, List.map_cons, List.map_nil]
      · rw [if_neg h]; simp only [List.filter_cons, List.filter_nil, h, decide_false, Bool.false_eq_true, if_false, List.map_nil]
    rw [e, List.sum_append]
    simp only [List.getElem_map, List.getElem_range, b_law_gather_1]
    rw [ms_cons]
    simp only [E.var, E.cmp, E.idx, S.iff, q_val, cond_bool, setAll, g_z, g_s, List.set_cons_zero, List.set_cons_succ, true_and, ms_nil]
    refine i_dO hj (by first | with_reducible exact oob ‹_› ‹_› | omega) ?_
    simp only [c_eqx, eqv_dO, decide_eq_true_eq]
    refine ⟨ok_dO _ _, rfl, ?_⟩
    by_cases h : ps.getD j none = some x
    · rw [if_pos h, if_pos h]
      rw [ms_cons]
      simp only [E.var, E.bin, E.idx, S.asg, q_val, b_add, i_ints, g_z, g_s, List.set_cons_zero, List.set_cons_succ, true_and, ms_nil]
      refine ⟨by first | with_reducible exact oo1 _ | omega, by first | with_reducible exact oo7 ‹_› ‹_› | omega, by first | with_reducible exact oot ‹_› ‹_› | omega, .val (.int j), ?_⟩
      simp only [Int.toNat_natCast, List.sum_cons, List.sum_nil, Int.add_zero]
    · rw [if_neg h, if_neg h]
      simp only [List.sum_nil, Int.add_zero]
      exact ⟨_, rfl⟩
  · rintro ρ σ' ⟨rfl, a, rfl⟩
    rw [List.length_map, List.length_range, Int.toNat_natCast]
    rw [ms_cons]
    simp only [E.var, S.ret, q_val, keepS, g_z, g_s, true_and, ms_nil]
    exact q

theorem lparts_spec (H : Has X c) {ws : List Int} {s : Int} {Q : D → Sg → Prop} (hl : ws.length ≤ 1000) (hw : ∀ w ∈ ws, 0 ≤ w) (hs : ws.sum < 2 ^ 62) (q : Q (.lst ((PV.partsV ws s).map D.int)) σ) :
    CallSem X (n + 1) "_law_parts" [.lst (ws.map D.int), .int s] σ Q := by
  have h0 := PV.sum_nn hw
  apply call_law_parts H
  simp only [m_law_parts]
  rw [ms_cons]
  simp only [E.cst, S.asg, flD, List.set_cons_zero, List.set_cons_succ]
  rw [ms_cons]
  simp only [E.var, It.seq, S.for_, q_val, q_one, g_z, ln_1]
  refine for_inv (fun j ρ σ' => σ' = σ ∧ ∃ (a : MV), ρ = [.val (.lst (ws.map D.int)), .val (.int s), .val (.int (PV.A ws j)), a, .unb, .unb, .unb, .unb]) ?_ ?_ ?_
  · exact ⟨rfl, .unb, rfl⟩
  · rintro j hj ρ σ' ⟨rfl, a, rfl⟩
    simp only [List.length_map] at hj
    rw [PV.A_succ hj]
    simp only [List.getElem_map, b_law_parts_1]
    rw [ms_cons]
    simp only [E.var, E.bin, S.asg, q_val, b_add, setAll, g_z, g_s, List.set_cons_zero, List.set_cons_succ, true_and, ms_nil]
    exact ⟨_, rfl⟩
  · rintro ρ σ' ⟨rfl, a, rfl⟩
    have eA : PV.A ws ws.length = ws.sum := by unfold PV.A; rw [List.take_length]
    simp only [List.length_map, eA]
    rw [ms_cons]
    simp only [ev_nil, L.disp, S.asgM, List.set_cons_zero, List.set_cons_succ, ln_0]
    refine ⟨by decide, ?_⟩
    rw [ms_cons]
    simp only [ev_nil, ev_cons, E.var, E.bi, It.range, S.for_, q_val, q_int, f_len, g_z, ln_1, List.length_map, true_and]
    refine ⟨by first | with_reducible exact oo3 ‹_› | omega, by first | with_reducible exact oo2 _ | omega, by first | with_reducible exact oo5 ‹_› | omega, ?_⟩
    have hpl : (PV.partsV ws s).length = ws.length := by simp [PV.partsV]
    refine for_inv (fun j ρ σ'' => σ'' = σ' ∧ ∃ (a5 a6 a7 : MV), ρ = [.val (.lst (ws.map D.int)), .val (.int s), .val (.int ws.sum), a, .mt (((PV.partsV ws s).take j).map D.int), a5, a6, a7]) ?_ ?_ ?_
    · exact ⟨rfl, .unb, .unb, .unb, rfl⟩
    · rintro j hj ρ σ'' ⟨rfl, a5, a6, a7, rfl⟩
      simp only [List.length_map, List.length_range, Int.toNat_natCast] at hj
      have hj' : j < (PV.partsV ws s).length := by rw [hpl]; exact hj
      have e : ((PV.partsV ws s).take (j + 1)).map D.int = ((PV.partsV ws s).take j).map D.int ++ [.int (PV.G ws s (j + 1) - PV.G ws s j)] := by
        rw [← List.take_append_getElem hj', List.map_append]
        simp [PV.partsV]
      rw [e]
      simp only [List.getElem_map, List.getElem_range, b_law_parts_2]
      rw [ms_cons]
      simp only [E.cst, S.asg, setAll, List.set_cons_zero, List.set_cons_succ]
      rw [ms_cons]
      simp only [E.cst, S.asg, List.set_cons_zero, List.set_cons_succ]
      rw [ms_cons]
      simp only [E.cst, E.var, E.cmp, S.iff, q_val, c_gt, cond_bool, g_z, g_s, decide_eq_true_eq, ms_nil]
      by_cases h : 0 < ws.sum
      · have eG : ∀ i, PV.G ws s i = (PV.A ws i * s).fdiv ws.sum := fun i => by unfold PV.G; rw [if_pos h]
        have sm : ∀ i, small (ws.take i).sum := fun i => by
          have h1 := PV.A_le hw i
          have h2 := PV.A_nn hw i
          unfold PV.A at h1 h2
          exact ⟨by omega, by omega⟩
        rw [eG, eG, if_pos h]
        rw [ms_cons]
        simp only [ev_nil, ev_cons, E.cst, E.var, E.bin, E.lst, E.bi, L.upto, S.asg, q_val, q_int, q_lst, b_add, g_z, g_s, List.set_cons_zero, List.set_cons_succ, List.length_map]
        refine ⟨by omega, by first | with_reducible exact oo3 ‹_› | omega, ?_⟩
        rw [← List.map_take, f_sum]
        simp only [b_mul, b_div]
        refine ⟨.inl (sm _), by omega, ⟨by omega, by omega⟩, ?_⟩
        rw [ms_cons]
        simp only [ev_nil, ev_cons, E.var, E.bin, E.lst, E.bi, L.upto, S.asg, q_val, q_int, q_lst, g_z, g_s, List.set_cons_zero, List.set_cons_succ, List.length_map, ms_nil]
        refine ⟨by first | with_reducible exact oo1 _ | omega, by first | with_reducible exact oo3 ‹_› | omega, ?_⟩
        rw [← List.map_take, f_sum]
        simp only [b_mul, b_div]
        refine ⟨.inl (sm _), by omega, ⟨by omega, by omega⟩, ?_⟩
        rw [ms_cons]
        simp only [E.var, E.bin, S.app, q_val, q_mt, b_sub, g_z, g_s, List.set_cons_zero, List.set_cons_succ, List.length_map, true_and, ms_nil]
        exact ⟨by simp; omega, _, _, _, rfl⟩
      · have eG : ∀ i, PV.G ws s i = 0 := fun i => by unfold PV.G; rw [if_neg h]
        rw [eG, eG, if_neg h]
        rw [ms_cons]
        simp only [E.var, E.bin, S.app, q_val, q_mt, b_sub, g_z, g_s, List.set_cons_zero, List.set_cons_succ, List.length_map, true_and, ms_nil]
        exact ⟨by simp; omega, _, _, _, rfl⟩
    · rintro ρ σ'' ⟨rfl, a5, a6, a7, rfl⟩
      rw [List.length_map, List.length_range, Int.toNat_natCast, ← hpl, List.take_length]
      rw [ms_cons]
      simp only [S.freeze, q_mt, g_z, g_s, List.set_cons_zero, List.set_cons_succ]
      rw [ms_cons]
      simp only [E.var, S.ret, q_val, keepS, g_z, g_s, true_and, ms_nil]
      exact q

theorem first_spec (H : Has X c) {a : Addr} {f : Int → Option D} {m : Nat} {hs st : List Int} {b : Int} {Q : D → Sg → Prop} (ha : σ a = some (.imap f m)) (hf : ∀ x ∈ st, f x = some (.int (hold hs x))) (hl : st.length ≤ 1000) (hm : IsMost hs st b) (q : Q (.int b) σ) :
    CallSem X (n + 1) "_law_first" [.ref a, .lst (st.map D.int)] σ Q := by
  apply call_law_first H
  simp only [m_law_first]
  rw [ms_cons]
  simp only [ev_nil, ev_cons, E.var, E.lst, E.bi, L.comp, It.seq, S.asg, q_val, q_one, flD, g_z, g_s, List.set_cons_zero, List.set_cons_succ, ln_1, List.length_map]
  refine ⟨by first | with_reducible exact oo3 ‹_› | omega, comp_ints st (fun xx => true) (fun x => .int (hold hs x)) (fun x hx K hK => hK) (fun x hx xx K hK => ?_) ?_⟩
  · simp only [e_law_first_1]
    simp only [E.var, E.dictAt, q_val, setAll, g_z, g_s, List.set_cons_zero, List.set_cons_succ]
    exact ⟨a, f, m, x, _, rfl, rfl, ha, hf x hx, hK⟩
  have e : (st.filter fun xx => true).map (fun x => D.int (hold hs x)) = (st.map (hold hs)).map D.int := by rw [filter_all, List.map_map]; rfl
  rw [e]
  refine f_max1 (m := hold hs b) (List.mem_map_of_mem hm.1) (fun y hy => ?_) ?_
  · obtain ⟨x, hx, rfl⟩ := List.mem_map.mp hy
    have := hm.2 x hx
    omega
  rw [ms_cons]
  simp only [ev_nil, ev_cons, E.var, E.lst, E.bi, L.comp, It.seq, S.ret, q_val, q_one, g_z, g_s, ln_1, List.length_map, ms_nil]
  refine ⟨by first | with_reducible exact oo3 ‹_› | omega, comp_ints st (fun x => decide (hold hs x = hold hs b)) D.int (fun x hx K hK => ?_) (fun x hx xx K hK => ?_) ?_⟩
  · simp only [p_law_first_1]
    simp only [cd_some, E.var, E.cmp, E.dictAt, q_val, setAll, g_z, g_s, List.set_cons_zero, List.set_cons_succ]
    refine ⟨a, f, m, x, _, rfl, rfl, ha, hf x hx, ?_⟩
    rw [c_eq]
    exact hK
  · simp only [e_law_first_2]
    simp only [E.var, q_val, setAll, g_z, g_s, List.set_cons_zero, List.set_cons_succ]
    exact hK
  refine f_min1 (m := b) (List.mem_filter.mpr ⟨hm.1, by simp⟩) (fun y hy => ?_) ⟨fun xx h => h, q⟩
  obtain ⟨h1, h2⟩ := List.mem_filter.mp hy
  have := hm.2 y h1
  simp only [decide_eq_true_eq] at h2
  omega

theorem last_spec (H : Has X c) {a : Addr} {f : Int → Option D} {m : Nat} {hs st : List Int} {b : Int} {Q : D → Sg → Prop} (ha : σ a = some (.imap f m)) (hf : ∀ x ∈ st, f x = some (.int (hold hs x))) (hl : st.length ≤ 1000) (hm : IsLeast hs st b) (q : Q (.int b) σ) :
    CallSem X (n + 1) "_law_last" [.ref a, .lst (st.map D.int)] σ Q := by
  apply call_law_last H
  simp only [m_law_last]
  rw [ms_cons]
  simp only [ev_nil, ev_cons, E.var, E.lst, E.bi, L.comp, It.seq, S.asg, q_val, q_one, flD, g_z, g_s, List.set_cons_zero, List.set_cons_succ, ln_1, List.length_map]
  refine ⟨by first | with_reducible exact oo3 ‹_› | omega, comp_ints st (fun xx => true) (fun x => .int (hold hs x)) (fun x hx K hK => hK) (fun x hx xx K hK => ?_) ?_⟩
  · simp only [e_law_last_1]
    simp only [E.var, E.dictAt, q_val, setAll, g_z, g_s, List.set_cons_zero, List.set_cons_succ]
    exact ⟨a, f, m, x, _, rfl, rfl, ha, hf x hx, hK⟩
  have e : (st.filter fun xx => true).map (fun x => D.int (hold hs x)) = (st.map (hold hs)).map D.int := by rw [filter_all, List.map_map]; rfl
  rw [e]
  refine f_min1 (m := hold hs b) (List.mem_map_of_mem hm.1) (fun y hy => ?_) ?_
  · obtain ⟨x, hx, rfl⟩ := List.mem_map.mp hy
    have := hm.2 x hx
    omega
  rw [ms_cons]
  simp only [ev_nil, ev_cons, E.var, E.lst, E.bi, L.comp, It.seq, S.ret, q_val, q_one, g_z, g_s, ln_1, List.length_map, ms_nil]
  refine ⟨by first | with_reducible exact oo3 ‹_› | omega, comp_ints st (fun x => decide (hold hs x = hold hs b)) D.int (fun x hx K hK => ?_) (fun x hx xx K hK => ?_) ?_⟩
  · simp only [p_law_last_1]
    simp only [cd_some, E.var, E.cmp, E.dictAt, q_val, setAll, g_z, g_s, List.set_cons_zero, List.set_cons_succ]
    refine ⟨a, f, m, x, _, rfl, rfl, ha, hf x hx, ?_⟩
    rw [c_eq]
    exact hK
  · simp only [e_law_last_2]
    simp only [E.var, q_val, setAll, g_z, g_s, List.set_cons_zero, List.set_cons_succ]
    exact hK
  refine f_max1 (m := b) (List.mem_filter.mpr ⟨hm.1, by simp⟩) (fun y hy => ?_) ⟨fun xx h => h, q⟩
  obtain ⟨h1, h2⟩ := List.mem_filter.mp hy
  have := hm.2 y h1
  simp only [decide_eq_true_eq] at h2
  omega
end
end L06
namespace L06
noncomputable def dState (st : St) : D := .lst [.lst (st.std.map D.int), .lst (st.lft.map D.int), .lst (dFil st.fil)]
theorem ln_3 {α : Type} {a b c : α} : [a, b, c].length = 3 := rfl
section
variable {X : Cx} {c : CA} {n : Nat} {σ : Sg} {k : Nat} {B : List (Int × List Int)} {s : Int} {st : St} {t : Deed}
theorem hold_lying (hB : Bal k B) (hg : Good k B s st) {x : Int} (hx : x ∈ st.std) : ((lyingF (placesF B st.std) x).map fun i => st.lft.getD i 0).sum = hold (holdF k B st) x := by
  have h := hg.inn x hx
  exact (hold_sum (by rw [hg.llen]; simp [placesF]) (places_in hB.row st.std) h.1 h.2).symm
theorem most_ex {hs : List Int} : ∀ {l : List Int}, l ≠ [] → ∃ b, IsMost hs l b
  | [], h => absurd rfl h
  | [a], _ => ⟨a, List.mem_singleton.mpr rfl, fun c hc => by rw [List.mem_singleton.mp hc]; exact .inr ⟨rfl, Int.le_refl _⟩⟩
  | a :: a' :: l, _ => by
    obtain ⟨b, hb, hm⟩ := most_ex (l := a' :: l) (by simp)
    by_cases h : hold hs a < hold hs b ∨ (hold hs a = hold hs b ∧ b ≤ a)
    · exact ⟨b, List.mem_cons_of_mem _ hb, fun c hc => by
        rcases List.mem_cons.mp hc with rfl | hc
        · exact h
        · exact hm c hc⟩
    · refine ⟨a, List.mem_cons_self, fun c hc => ?_⟩
      rcases List.mem_cons.mp hc with rfl | hc
      · exact .inr ⟨rfl, Int.le_refl _⟩
      · have := hm c hc; omega
theorem least_ex {hs : List Int} : ∀ {l : List Int}, l ≠ [] → ∃ b, IsLeast hs l b
  | [], h => absurd rfl h
  | [a], _ => ⟨a, List.mem_singleton.mpr rfl, fun c hc => by rw [List.mem_singleton.mp hc]; exact .inr ⟨rfl, Int.le_refl _⟩⟩
  | a :: a' :: l, _ => by
    obtain ⟨b, hb, hm⟩ := least_ex (l := a' :: l) (by simp)
    by_cases h : hold hs b < hold hs a ∨ (hold hs a = hold hs b ∧ a ≤ b)
    · exact ⟨b, List.mem_cons_of_mem _ hb, fun c hc => by
        rcases List.mem_cons.mp hc with rfl | hc
        · exact h
        · exact hm c hc⟩
    · refine ⟨a, List.mem_cons_self, fun c hc => ?_⟩
      rcases List.mem_cons.mp hc with rfl | hc
      · exact .inr ⟨rfl, Int.le_refl _⟩
      · have := hm c hc; omega
theorem next_ex (hg : Good k B s st) (h : (st.fil.length : Int) ≠ s) : ∃ t, IsNext k B s st t := by
  have hf := hg.fle
  have hr := hg.room
  have hne : st.std ≠ [] := fun e => by rw [e] at hr; simp at hr; omega
  obtain ⟨m, hm⟩ := most_ex (hs := holdF k B st) hne
  obtain ⟨l, hl⟩ := least_ex (hs := holdF k B st) hne
  by_cases hc : (st.std.length : Int) ≤ s - st.fil.length ∨ quotaV B s ≤ hold (holdF k B st) m
  · exact ⟨.seat m, by omega, m, hm, rfl, hc⟩
  · exact ⟨.out l, by omega, m, hm, hc, hl⟩

theorem after_spec (H : Has X c) {Q : D → Sg → Prop} (hB : Bal k B) (hg : Good k B s st) (hk : k ≤ 12) (hl : st.std.length ≤ 100) (hs : s ≤ 100) (q0 : (st.fil.length : Int) = s → Q .none σ)
    (q1 : ∀ t, IsNext k B s st t → ∀ σ', Ext σ σ' → Q (.lst [dDeed t, dState (nextS k B s st t)]) σ') :
    CallSem X (n + 1 + 1) "_law_after" [.lst (dB B), .int s, .int (quotaV B s), dState st] σ Q := by
  have hBl := hB.len
  have hll := hg.llen
  have hfle := hg.fle
  have hdl : (dB B).length = B.length := by simp [dB]
  have hpl : (placesF B st.std).length = st.lft.length := by rw [hg.llen]; simp [placesF]
  apply call_law_after H
  simp only [m_law_after, dState]
  rw [ms_cons]
  simp only [E.var, q_val, q_lst, Mine.S.unpL, setAll, flD, g_z, g_s, List.set_cons_zero, List.set_cons_succ]
  simp only [ln_3, true_and]
  rw [ms_cons]
  simp only [ev_nil, ev_cons, E.var, E.cmp, E.bi, S.iff, q_val, c_eq, cond_bool, f_len, g_z, g_s, decide_eq_true_eq, ms_nil]
  rw [dFil_len]
  refine ⟨by omega, ?_⟩
  by_cases hfin : (st.fil.length : Int) = s
  · rw [if_pos hfin]
    rw [ms_cons]
    simp only [E.cst, S.ret, keepS, true_and, ms_nil]
    exact q0 hfin
  rw [if_neg hfin]
  obtain ⟨t, hn⟩ := next_ex hg hfin
  replace q1 := q1 t hn
  rw [ms_cons]
  simp only [E.var, E.lst, L.comp, It.seq, S.asg, q_val, g_z, List.set_cons_zero, List.set_cons_succ, ln_2]
  refine rows2 ⟨by simp; (first | with_reducible exact oo3 ‹_› | omega), ?_⟩
  refine comp_l _ (fun xx => true) (fun b => dO (placeV b.2 st.std)) B (fun x hx K hK => hK) (fun x hx xx K hK => ?_) ?_
  · simp only [e_law_after_1]
    simp only [ev_nil, ev_cons, E.var, E.call, q_val, setAll, g_z, g_s, List.set_cons_zero, List.set_cons_succ]
    refine lplace_spec H ?_ hK
    have := (hB.row x hx).len
    first | with_reducible exact ooc ‹_› ‹_› | omega
  have e1 : (B.filter fun xx => true).map (fun b => dO (placeV b.2 st.std)) = (placesF B st.std).map dO := by rw [filter_all, placesF, List.map_map]; rfl
  rw [e1]
  rw [ms_cons]
  simp only [E.dict0, S.asg, List.set_cons_zero, List.set_cons_succ]
  intro a ha
  rw [ms_cons]
  simp only [E.var, It.seq, S.for_, q_val, q_one, g_z, g_s, ln_1]
  refine for_inv (fun j ρ σ' => ∃ (a5 : MV) (f : Int → Option D), ρ = [.val (.lst (dB B)), .val (.int s), .val (.int (quotaV B s)), .val (.lst [.lst (st.std.map D.int), .lst (st.lft.map D.int), .lst (dFil st.fil)]), .val (.lst ((placesF B st.std).map dO)), .val (.ref a), a5, .unb, .unb, .unb, .unb, .unb, .unb, .val (.lst (st.std.map D.int)), .val (.lst (st.lft.map D.int)), .val (.lst (dFil st.fil)), .unb, .unb, .unb] ∧
    σ' a = some (.imap f j) ∧ (∀ i (h : i < st.std.length), i < j → f st.std[i] = some (.int (hold (holdF k B st) st.std[i]))) ∧ Ext σ σ') ?_ ?_ ?_
  · exact ⟨.unb, _, rfl, Sg.put_self _ _ _, fun i h h' => absurd h' (Nat.not_lt_zero _), Ext.put ha⟩
  · rintro j hj ρ σ' ⟨a5, f, rfl, hσ, hf, hkp⟩
    simp only [List.length_map] at hj
    simp only [List.getElem_map, b_law_after_1]
    rw [ms_cons]
    simp only [ev_nil, ev_cons, E.var, E.call, S.setD, q_val, setAll, g_z, g_s, List.set_cons_zero, List.set_cons_succ, ms_nil]
    refine gather_spec H hpl (by first | with_reducible exact ooh ‹_› ‹_› ‹_› | omega) ?_
    rw [hold_lying hB hg (List.getElem_mem hj)]
    refine ⟨a, f, j, _, rfl, rfl, hσ, by first | with_reducible exact oow ‹_› ‹_› | omega, _, _, rfl, Sg.put_self _ _ _, fun i h h' => ?_, fun x t' e => ?_⟩
    · by_cases e : st.std[i] = st.std[j]
      · rw [if_pos e, e]
      · rw [if_neg e]
        have : i ≠ j := fun e' => e (by subst e'; rfl)
        exact hf i h (by omega)
    · rw [Sg.put_ne (fun q => by rw [q, ha] at e; cases e)]; exact hkp x t' e
  · rintro ρ σ' ⟨a5, f, rfl, hσ, hf, hkp⟩
    simp only [List.length_map] at hσ hf
    have hf' : ∀ x ∈ st.std, f x = some (.int (hold (holdF k B st) x)) := fun x hx => by
      obtain ⟨i, hi, rfl⟩ := List.getElem_of_mem hx
      exact hf i hi hi
    have hnw := hn.who
    obtain ⟨hz, m, hm, ht⟩ := hn
    rw [ms_cons]
    simp only [ev_nil, ev_cons, E.var, E.call, S.asg, q_val, g_z, g_s, List.set_cons_zero, List.set_cons_succ]
    refine first_spec H hσ hf' (by first | with_reducible exact oo3 ‹_› | omega) hm ?_
    rw [ms_cons]
    simp only [ev_nil, ev_cons, E.var, E.bin, E.cmp, E.and_, E.bi, E.dictAt, S.iff, q_val, b_sub, c_gt, cond_bool, f_len, g_z, g_s, List.length_map, decide_eq_true_eq, ms_nil, if_false, Bool.false_eq_true]
    rw [dFil_len]
    refine ⟨by first | with_reducible exact oo3 ‹_› | omega, by omega, ?_⟩
    have seatC : ((st.std.length : Int) ≤ s - st.fil.length ∨ quotaV B s ≤ hold (holdF k B st) m) → mExecs X (n + 1) (m_law_after.drop 7) [.val (.lst (dB B)), .val (.int s), .val (.int (quotaV B s)), .val (.lst [.lst (st.std.map D.int), .lst (st.lft.map D.int), .lst (dFil st.fil)]), .val (.lst ((placesF B st.std).map dO)), .val (.ref a), a5, .val (.int m), .unb, .unb, .unb, .unb, .unb, .val (.lst (st.std.map D.int)), .val (.lst (st.lft.map D.int)), .val (.lst (dFil st.fil)), .unb, .unb, .unb] σ' (fun fl xx σ' => (∀ b, σ b ≠ none → σ' b ≠ none) ∧ Q (flD fl) σ') := fun hc => by
      have et : t = .seat m := by
        cases t with
        | seat x => rw [ht.1]
        | out x => exact absurd hc ht.1
      subst et
      have hsum := hold_lying hB hg hm.1
      have hq := q1 σ' hkp
      have e0 : nextS k B s st (.seat m) = ⟨st.std.filter fun x => decide (x ≠ m), restF st.lft (givenF k B s st m), st.fil ++ [(m, bearF (givenF k B s st m))]⟩ := rfl
      have eg : givenF k B s st m = (lyingF (placesF B st.std) m).zip (PV.partsV ((lyingF (placesF B st.std) m).map fun i => st.lft.getD i 0) (min (quotaV B s) (hold (holdF k B st) m))) := rfl
      rw [e0, eg] at hq
      clear q1
      simp only [m_law_after, List.drop_succ_cons, List.drop_zero]
      rw [ms_cons]
      simp only [ev_nil, ev_cons, E.var, E.lst, E.bi, L.comp, It.range, S.asg, q_val, q_int, f_len, flD, g_z, List.set_cons_zero, List.set_cons_succ, ln_1, List.length_map, true_and]
      rw [hdl]
      refine ⟨by first | with_reducible exact oo3 ‹_› | omega, by first | with_reducible exact oo2 _ | omega, by first | with_reducible exact oo5 ‹_› | omega, by simp; (first | with_reducible exact oo3 ‹_› | omega), ?_⟩
      refine comp_l (fun (j : Nat) => [D.int (j : Int)]) (fun i => decide ((placesF B st.std).getD i none = some m)) (fun i => .int (i : Int)) _ (fun i hi K hK => ?_) (fun i hi xx K hK => ?_) ?_
      · have hi := List.mem_range.mp hi
        rw [Int.toNat_natCast] at hi
        simp only [p_law_after_2]
        simp only [cd_some, E.var, E.cmp, E.idx, q_val, setAll, g_z, g_s, List.set_cons_zero, List.set_cons_succ]
        refine i_dO (by omega) (by first | with_reducible exact oob ‹_› ‹_› | omega) ?_
        simp only [c_eqx, eqv_dO]
        exact ⟨ok_dO _ _, rfl, hK⟩
      · simp only [e_law_after_3]
        simp only [E.var, q_val, setAll, g_z, g_s, List.set_cons_zero, List.set_cons_succ]
        exact hK
      have ely : ((List.range (Int.toNat (B.length : Int))).filter fun i => decide ((placesF B st.std).getD i none = some m)).map (fun i : Nat => D.int (i : Int)) = ((lyingF (placesF B st.std) m).map fun i : Nat => (i : Int)).map D.int := by
        rw [Int.toNat_natCast, List.map_map, lyingF, hpl, hll]; rfl
      rw [ely]
      have hlt : ∀ i ∈ lyingF (placesF B st.std) m, i < st.lft.length := fun i hi => by rw [← hpl]; exact lying_lt hi
      have hlyl : (lyingF (placesF B st.std) m).length ≤ 40 := by have := lying_len (placesF B st.std) m; omega
      generalize lyingF (placesF B st.std) m = ly at *
      rw [ms_cons]
      simp only [ev_nil, ev_cons, E.var, E.lst, E.call, E.bi, E.dictAt, L.comp, It.seq, S.asg, q_val, q_one, g_z, g_s, List.set_cons_zero, List.set_cons_succ, ln_1, List.length_map]
      refine ⟨by first | with_reducible exact oo3 ‹_› | omega, ?_⟩
      refine comp_ints _ (fun xx => true) (fun y => .int (st.lft.getD y.toNat 0)) (fun y hy K hK => hK) (fun y hy xx K hK => ?_) ?_
      · obtain ⟨i, hi, rfl⟩ := List.mem_map.mp hy
        have := hlt i hi
        simp only [e_law_after_4]
        simp only [E.var, E.idx, q_val, i_ints, setAll, g_z, g_s, List.set_cons_zero, List.set_cons_succ]
        exact ⟨by first | with_reducible exact oo1 _ | omega, by first | with_reducible exact ook ‹_› ‹_› ‹_› | omega, by first | with_reducible exact ood ‹_› | omega, hK⟩
      have ews : List.map (fun y : Int => D.int (st.lft.getD y.toNat 0)) (List.filter (fun xx => true) (ly.map fun i : Nat => (i : Int))) = (ly.map fun i => st.lft.getD i 0).map D.int := by
        rw [filter_all, List.map_map, List.map_map]; rfl
      rw [ews]
      have hwl : (ly.map fun i => st.lft.getD i 0).length = ly.length := List.length_map _
      have hw : ∀ w ∈ ly.map (fun i => st.lft.getD i 0), 0 ≤ w ∧ w ≤ 1000000000 := fun w hw => by
        obtain ⟨i, hi, rfl⟩ := List.mem_map.mp hw
        have h1 := hlt i hi
        rw [show st.lft.getD i 0 = st.lft[i] by simp [List.getD, h1]]
        exact hg.lnn _ (List.getElem_mem h1)
      generalize ly.map (fun i => st.lft.getD i 0) = ws at *
      have hsl := PV.sum_le fun w h => (hw w h).2
      refine ⟨a, f, _, m, _, rfl, rfl, hσ, hf' m hm.1, ?_⟩
      simp only [f_min2]
      refine lparts_spec H (by first | with_reducible exact oo9 ‹_› ‹_› | omega) (fun w h => (hw w h).1) (by omega) ?_
      have hgl : (PV.partsV ws (min (quotaV B s) (hold (holdF k B st) m))).length = ly.length := by rw [← hwl]; simp [PV.partsV]
      generalize PV.partsV ws (min (quotaV B s) (hold (holdF k B st) m)) = gv at *
      rw [ms_cons]
      simp only [E.var, L.ofSeq, It.seq, S.asgM, q_val, q_one, g_z, g_s, List.set_cons_zero, List.set_cons_succ, List.length_map, map_headD]
      refine ⟨by first | with_reducible exact oo9 ‹_› ‹_› | omega, ?_⟩
      rw [ms_cons]
      simp only [ev_nil, L.disp, S.asgM, List.set_cons_zero, List.set_cons_succ, ln_0]
      refine ⟨by decide, ?_⟩
      rw [ms_cons]
      simp only [ev_nil, ev_cons, E.var, E.bi, It.range, S.for_, q_val, q_int, f_len, g_z, g_s, ln_1, List.length_map, true_and]
      refine ⟨by first | with_reducible exact oo3 ‹_› | omega, by first | with_reducible exact oo2 _ | omega, by first | with_reducible exact oo5 ‹_› | omega, ?_⟩
      have hzl : (ly.zip gv).length = ly.length := by rw [List.length_zip]; omega
      refine for_inv (fun j ρ σ'' => σ'' = σ' ∧ ∃ (a12 : MV), ρ = [.val (.lst (dB B)), .val (.int s), .val (.int (quotaV B s)), .val (.lst [.lst (st.std.map D.int), .lst (st.lft.map D.int), .lst (dFil st.fil)]), .val (.lst ((placesF B st.std).map dO)), .val (.ref a), a5, .val (.int m), .val (.lst ((ly.map fun i : Nat => (i : Int)).map D.int)), .val (.lst (gv.map D.int)), .mt ((restF st.lft ((ly.zip gv).take j)).map D.int), .mt (dBe (bearF ((ly.zip gv).take j))), a12, .val (.lst (st.std.map D.int)), .val (.lst (st.lft.map D.int)), .val (.lst (dFil st.fil)), .unb, .unb, .unb]) ?_ ?_ ?_
      · exact ⟨rfl, .unb, rfl⟩
      · rintro j hj ρ σ'' ⟨rfl, a12, rfl⟩
        simp only [List.length_map, List.length_range, Int.toNat_natCast] at hj
        have hjz : j < (ly.zip gv).length := by first | with_reducible exact ooe ‹_› ‹_› | omega
        have hjg : j < gv.length := by first | with_reducible exact oov ‹_› ‹_› ‹_› | omega
        rw [rest_take hjz, bear_take hjz]
        have e1 : (ly.map fun i : Nat => (i : Int)).getD j 0 = (ly[j] : Int) := by simp [List.getD, hj]
        have e2 : gv.getD j 0 = gv[j] := by simp [List.getD, hjg]
        have hlj := hlt _ (List.getElem_mem hj)
        have hrl := rest_len st.lft ((ly.zip gv).take j)
        have hbl := bear_len ((ly.zip gv).take j)
        rw [List.length_take] at hbl
        rw [List.getElem_zip]
        generalize restF st.lft ((ly.zip gv).take j) = acc at *
        generalize bearF ((ly.zip gv).take j) = bs at *
        simp only [List.getElem_map, List.getElem_range, b_law_after_2]
        rw [ms_cons]
        simp only [E.var, E.bin, E.idx, E.idxM, S.setI, q_val, q_mt, q_int, i_ints, setAll, g_z, g_s, List.set_cons_zero, List.set_cons_succ, List.length_map]
        simp only [Int.toNat_natCast, e1, e2]
        refine ⟨by first | with_reducible exact ooh ‹_› ‹_› ‹_› | omega, by first | with_reducible exact oo1 _ | omega, by first | with_reducible exact ook ‹_› ‹_› ‹_› | omega, by first | with_reducible exact ood ‹_› | omega, by first | with_reducible exact oo1 _ | omega, by first | with_reducible exact ook ‹_› ‹_› ‹_› | omega, .int (acc.getD ly[j] 0), ?_, ?_⟩
        · rw [List.getElem?_map, List.getElem?_eq_getElem (by first | with_reducible exact ooe ‹_› ‹_› | omega)]
          simp [List.getD, hrl, hlj]
        refine ⟨by first | with_reducible exact oo1 _ | omega, by first | with_reducible exact ook ‹_› ‹_› ‹_› | omega, by first | with_reducible exact ood ‹_› | omega, by first | with_reducible exact oo1 _ | omega, by first | with_reducible exact ook ‹_› ‹_› ‹_› | omega, by first | with_reducible exact ood ‹_› | omega, by first | with_reducible exact oo1 _ | omega, by first | with_reducible exact oou ‹_› ‹_› | omega, ?_⟩
        rw [← List.map_set]
        rw [ms_cons]
        simp only [E.cst, E.var, E.cmp, E.idx, S.iff, q_val, c_gt, cond_bool, i_ints, g_z, g_s, true_and, decide_eq_true_eq, ms_nil]
        simp only [Int.toNat_natCast, e1, e2]
        refine ⟨by first | with_reducible exact oo1 _ | omega, by first | with_reducible exact ook ‹_› ‹_› ‹_› | omega, by first | with_reducible exact ood ‹_› | omega, ?_⟩
        by_cases hp : 0 < gv[j]
        · rw [if_pos hp, if_pos hp]
          rw [ms_cons]
          simp only [ev_nil, ev_cons, E.var, E.tupE, E.idx, S.app, q_val, q_mt, i_ints, g_z, g_s, List.set_cons_zero, List.set_cons_succ, ln_2, List.length_map, true_and, ms_nil]
          simp only [Int.toNat_natCast, e1, e2, dBe_len]
          refine ⟨by omega, by first | with_reducible exact oo1 _ | omega, by first | with_reducible exact ook ‹_› ‹_› ‹_› | omega, by first | with_reducible exact ood ‹_› | omega, by first | with_reducible exact oo1 _ | omega, by first | with_reducible exact ook ‹_› ‹_› ‹_› | omega, by first | with_reducible exact ood ‹_› | omega, by decide, .val (.int j), ?_⟩
          simp only [dBe, List.map_append, List.map_cons, List.map_nil]
        · rw [if_neg hp, if_neg hp]
          simp only [List.append_nil]
          exact ⟨_, rfl⟩
      · rintro ρ σ'' ⟨rfl, a12, rfl⟩
        rw [List.length_map, List.length_range, Int.toNat_natCast, ← hzl, List.take_length]
        rw [ms_cons]
        simp only [S.freeze, q_mt, g_z, g_s, List.set_cons_zero, List.set_cons_succ]
        rw [ms_cons]
        simp only [S.freeze, q_mt, g_z, g_s, List.set_cons_zero, List.set_cons_succ]
        rw [ms_cons]
        simp only [ev_nil, ev_cons, E.cst, E.var, E.lst, E.tupE, L.disp, L.comp, L.cat, It.seq, S.ret, q_val, q_lst, q_one, g_z, g_s, ln_1, ln_2, List.length_map, ms_nil]
        refine ⟨by decide, by first | with_reducible exact oo3 ‹_› | omega, ?_⟩
        refine comp_ints st.std (fun x => decide (x ≠ m)) D.int (fun x hx K hK => ?_) (fun x hx xx K hK => ?_) ?_
        · simp only [p_law_after_3]
          simp only [cd_some, E.var, E.cmp, q_val, c_ne, setAll, g_z, g_s, List.set_cons_zero, List.set_cons_succ]
          exact hK
        · simp only [e_law_after_5]
          simp only [E.var, q_val, setAll, g_z, g_s, List.set_cons_zero, List.set_cons_succ]
          exact hK
        have ed : dFil (st.fil ++ [(m, bearF (ly.zip gv))]) = dFil st.fil ++ [.tup [.int m, .lst (dBe (bearF (ly.zip gv)))]] := by simp [dFil]
        simp only [dState, ed] at hq
        refine ⟨by decide, by decide, by simp [dFil]; omega, Nat.le_of_ble_eq_true rfl, Nat.le_of_ble_eq_true rfl, hkp.keep, hq⟩
    simp only [m_law_after, List.drop_succ_cons, List.drop_zero] at seatC
    by_cases h1 : s - (st.fil.length : Int) < st.std.length
    · rw [if_pos h1]
      refine ⟨a, f, _, m, _, rfl, rfl, hσ, hf' m hm.1, ?_⟩
      simp only [c_lt, decide_eq_true_eq]
      by_cases h2 : hold (holdF k B st) m < quotaV B s
      · rw [if_pos h2]
        cases t with
        | seat x => exact absurd ht.2 (by omega)
        | out x =>
          rw [ms_cons]
          simp only [ev_nil, ev_cons, E.var, E.call, S.asg, q_val, g_z, g_s, List.set_cons_zero, List.set_cons_succ]
          refine last_spec H hσ hf' (by first | with_reducible exact oo3 ‹_› | omega) ht.2 ?_
          rw [ms_cons]
          simp only [ev_nil, ev_cons, E.cst, E.var, E.lst, E.tupE, L.disp, L.comp, It.seq, S.ret, q_val, q_one, g_z, g_s, ln_1, ln_2, List.length_map, ms_nil]
          refine ⟨by decide, by first | with_reducible exact oo3 ‹_› | omega, ?_⟩
          refine comp_ints st.std (fun y => decide (y ≠ x)) D.int (fun y hy K hK => ?_) (fun y hy xx K hK => ?_) ?_
          · simp only [p_law_after_1]
            simp only [cd_some, E.var, E.cmp, q_val, c_ne, setAll, g_z, g_s, List.set_cons_zero, List.set_cons_succ]
            exact hK
          · simp only [e_law_after_2]
            simp only [E.var, q_val, setAll, g_z, g_s, List.set_cons_zero, List.set_cons_succ]
            exact hK
          exact ⟨Nat.le_of_ble_eq_true rfl, Nat.le_of_ble_eq_true rfl, hkp.keep, q1 σ' hkp⟩
      · rw [if_neg h2]
        exact seatC (.inr (by first | with_reducible exact Int.not_lt.mp ‹_› | omega))
    · rw [if_neg h1]
      exact seatC (.inl (by first | with_reducible exact Int.not_lt.mp ‹_› | omega))
end
end L06
namespace L06
theorem plainO (p : Option Int) : (dO p).plain = true := by cases p <;> simp [dO, D.plain]
theorem plainP (ps : List (Option Int)) : (D.lst (ps.map dO)).plain = true := by
  simp only [D.plain]
  refine plains_all fun d hd => ?_
  obtain ⟨p, _, rfl⟩ := List.mem_map.mp hd
  exact plainO p
theorem okP (n : Nat) (ps : List (Option Int)) : D.ok (n + 1) (.lst (ps.map dO)) = true := by
  simp only [D.ok, List.all_eq_true]
  intro d hd
  obtain ⟨p, _, rfl⟩ := List.mem_map.mp hd
  exact ok_dO _ _
theorem plainBe (bs : List (Int × Int)) : (D.lst (dBe bs)).plain = true := by
  simp only [D.plain]
  refine plains_all fun d hd => ?_
  obtain ⟨p, _, rfl⟩ := List.mem_map.mp hd
  simp [D.plain, D.plains]
theorem plainF (f : List (Int × List (Int × Int))) : (D.lst (dFil f)).plain = true := by
  simp only [D.plain]
  refine plains_all fun d hd => ?_
  obtain ⟨p, _, rfl⟩ := List.mem_map.mp hd
  have := plainBe p.2
  simp [D.plain, D.plains] at this ⊢
  exact this
theorem okBe (n : Nat) (bs : List (Int × Int)) : D.ok (n + 2) (.lst (dBe bs)) = true := by
  simp only [D.ok, List.all_eq_true]
  intro d hd
  obtain ⟨p, _, rfl⟩ := List.mem_map.mp hd
  cases n <;> simp [D.ok]
theorem okF (n : Nat) (f : List (Int × List (Int × Int))) : D.ok (n + 4) (.lst (dFil f)) = true := by
  simp only [D.ok, List.all_eq_true]
  intro d hd
  obtain ⟨p, _, rfl⟩ := List.mem_map.mp hd
  have := okBe n p.2
  simp [D.ok] at this ⊢
  exact this
theorem plainS (st : St) : (dState st).plain = true := by
  have h1 := plain_ints st.std
  have h2 := plain_ints st.lft
  have h3 := plainF st.fil
  simp only [dState, D.plain, D.plains, Bool.and_true, Bool.and_eq_true] at h1 h2 h3 ⊢
  exact ⟨h1, h2, h3⟩
theorem okS (n : Nat) (st : St) : D.ok (n + 5) (dState st) = true := by
  have h1 := ok_ints (n + 3) st.std
  have h2 := ok_ints (n + 3) st.lft
  have h3 := okF n st.fil
  simp only [dState]
  rw [D.ok]
  simp only [List.all_cons, List.all_nil, Bool.and_true, Bool.and_eq_true]
  exact ⟨h1, h2, h3⟩
theorem plainSs (l : List St) : (D.lst (l.map dState)).plain = true := by
  simp only [D.plain]
  refine plains_all fun d hd => ?_
  obtain ⟨p, _, rfl⟩ := List.mem_map.mp hd
  exact plainS p
theorem okSs (n : Nat) (l : List St) : D.ok (n + 6) (.lst (l.map dState)) = true := by
  rw [D.ok, List.all_eq_true]
  intro d hd
  obtain ⟨p, _, rfl⟩ := List.mem_map.mp hd
  exact okS n p
theorem plainD (t : Deed) : (dDeed t).plain = true := by simp [dDeed, D.plain, D.plains]
theorem okD (t : Deed) : D.ok 8 (dDeed t) = true := by
  cases t <;> simp only [dDeed, D.ok, List.all_cons, List.all_nil, Bool.and_true, Deed.word] <;> decide +kernel
theorem eqv_nil (l : List St) : eqv (.lst (l.map dState)) (.lst []) = decide (l = []) := by
  cases l with
  | nil => exact eqv_self (a := .lst []) rfl
  | cons x l => rw [eqv_ne (plainSs (x :: l)) rfl (by simp)]; simp
theorem f_isboolB {b : Bool} {Q : D → Prop} : biT .isbool [.bool b] Q = Q (.bool true) := rfl

section
variable {X : Cx} {c : CA} {n : Nat} {σ : Sg} {k : Nat} {B : List (Int × List Int)} {s : Int} {a dx b : Addr} {sts : List St} {st : St}
theorem done_spec (H : Has X c) {Q : D → Sg → Prop} (h : CntAt c σ a dx b k B s sts) (hlast : sts.getLast? = some st) (hlen : sts.length ≤ 900) (hk : k ≤ 12) (hB : Bal k B) (hs0 : 1 ≤ s) (hs : s ≤ k) (hg : Good k B s st) (hl : st.std.length ≤ 100)
    (q0 : (st.fil.length : Int) = s → Q (.lst [.bool true, dState st]) σ)
    (q1 : ∀ t, IsNext k B s st t → ∀ σ', Ext σ σ' → Q (.lst [.bool true, dState (nextS k B s st t)]) (σ'.put b (.list ((sts ++ [nextS k B s st t]).map dSt)))) :
    CallSem X (n + 1 + 1 + 1 + 1) "_law_done" [.ref a, .lst (dB B), .int s, .int (quotaV B s), dState st] σ Q := by
  have hBl := hB.len
  apply call_law_done H
  simp only [m_law_done]
  rw [ms_cons]
  simp only [ev_nil, ev_cons, E.var, E.call, S.asg, q_val, flD, g_z, g_s, List.set_cons_zero, List.set_cons_succ]
  refine after_spec H hB hg hk hl (by omega) (fun hf => ?_) fun t ht σ1 e1 => ?_
  · rw [ms_cons]
    simp only [E.var, S.asg, q_val, E.meth, g_z, List.set_cons_zero, List.set_cons_succ]
    refine x_meth h H.cnt.step rfl (hasStep H h hlast (by first | with_reducible assumption | omega) (by first | with_reducible exact oo3 ‹_› | omega) (by first | with_reducible assumption | omega) (by first | with_reducible exact oop ‹_› | omega) (by omega) hB.row hg (fun hz => ?_) fun t ht => ?_)
    · rw [ms_cons]
      simp only [E.cst, E.var, E.cmp, S.iff, q_val, c_is, cond_bool, g_z, g_s, ms_nil]
      simp only [D.isNone, if_true]
      rw [ms_cons]
      simp only [ev_nil, ev_cons, E.cst, E.var, E.cmp, E.lst, L.disp, S.ret, q_val, c_is, keepS, g_z, g_s, ln_2, true_and, ms_nil]
      simp only [D.isNone]
      exact ⟨by decide, q0 hf⟩
    · have := ht.1; omega
  · have h1 := CntAt.ext h e1
    rw [ms_cons]
    simp only [E.var, S.asg, q_val, E.meth, g_z, List.set_cons_zero, List.set_cons_succ]
    refine x_meth h1 H.cnt.step rfl (hasStep H h1 hlast (by first | with_reducible assumption | omega) (by first | with_reducible exact oo3 ‹_› | omega) (by first | with_reducible assumption | omega) (by first | with_reducible exact oop ‹_› | omega) (by omega) hB.row hg (fun hz => ?_) fun t' ht' => ?_)
    · have := ht.1; omega
    · obtain rfl := ht.eq ht'
      rw [ms_cons]
      simp only [E.cst, E.var, E.cmp, S.iff, q_val, c_is, cond_bool, g_z, g_s, ms_nil]
      simp only [D.isNone, Bool.false_eq_true, if_false]
      rw [ms_cons]
      simp only [ev_nil, ev_cons, E.cst, E.var, E.cmp, E.and_, E.lst, E.idx, E.call, E.bi, L.disp, S.ret, q_val, cond_bool, i_0, i_1, g_z, g_s, ln_2, ms_nil]
      have hpd := eqv_self (plainD t)
      have hod := okD t
      simp only [dDeed] at hpd hod ⊢
      simp only [cond_bool, t_1, f_istup, if_true]
      simp only [c_eqx, hod, hpd, true_and, if_true]
      refine hasWhole H ?_
      refine ⟨by decide, fun x hx => keep_put _ _ _ x (e1.keep x hx), q1 t ht σ1 e1⟩

theorem lback_spec (H : Has X c) {Q : D → Sg → Prop} {past : List St} {p : Addr} (h : CntAt c σ a dx b k B s (past ++ [st])) (hp : σ p = some (.list (past.map dState))) (hpb : p ≠ b) (hl : past.length ≤ 900)
    (q0 : past = [] → Q (.bool true) σ) (q1 : past ≠ [] → Q (.bool true) (σ.put b (.list (past.map dSt)))) :
    CallSem X (n + 1 + 1) "_law_back" [.ref a, .ref p] σ Q := by
  apply call_law_back H
  simp only [m_law_back]
  rw [ms_cons]
  simp only [E.var, S.asg, q_val, E.meth, flD, g_z, List.set_cons_zero, List.set_cons_succ]
  refine x_meth h H.cnt.back rfl (back_spec H h (by simp; (first | with_reducible exact oo3 ‹_› | omega)) (by simp) (fun e => ?_) fun l x e hne => ?_)
  · have he : past = [] := by
      rw [List.length_append, List.length_singleton] at e
      exact List.eq_nil_of_length_eq_zero (by omega)
    subst he
    rw [ms_cons]
    simp only [ev_nil, ev_cons, E.var, E.cmp, E.and_, E.lst, E.bi, L.disp, S.ret, q_val, E.lendE, keepS, g_z, g_s, ln_0, true_and, ms_nil]
    simp only [f_isboolB, cond_bool, if_true]
    refine ⟨[.lst []], ⟨.ref hp (DerAll.same _), trivial⟩, ?_⟩
    simp only [q_val, setAll, g_z, g_s, List.set_cons_zero, List.set_cons_succ]
    refine ⟨by decide, ?_⟩
    have e0 := eqv_nil []
    simp only [List.map_nil] at e0
    simp only [c_nex, c_eqx, e0, decide_true, Bool.not_true]
    exact ⟨rfl, rfl, rfl, rfl, rfl, q0 rfl⟩
  · obtain ⟨e1, e2⟩ := List.append_inj' e rfl
    subst e1
    rw [ms_cons]
    simp only [ev_nil, ev_cons, E.var, E.cmp, E.and_, E.lst, E.bi, L.disp, S.ret, q_val, E.lendE, g_z, g_s, ln_0, ms_nil]
    simp only [f_isboolB, cond_bool, if_true]
    refine ⟨[.lst (past.map dState)], ⟨.ref (by rw [Sg.put_ne hpb]; exact hp) (DerAll.same _), trivial⟩, ?_⟩
    simp only [q_val, setAll, g_z, g_s, List.set_cons_zero, List.set_cons_succ]
    refine ⟨by decide, ?_⟩
    simp only [c_nex, c_eqx, eqv_nil, decide_eq_false hne, Bool.not_false]
    exact ⟨okSs 2 _, rfl, rfl, rfl, rfl, keep_put _ _ _, q1 hne⟩
end
end L06
namespace L06
noncomputable def dueD (B : List (Int × List Int)) (st : St) : Nat → List D
  | 0 => st.std.map D.int
  | 1 => (placesF B st.std).map dO
  | 2 => st.lft.map D.int
  | _ => dFil st.fil
theorem plainDue (B : List (Int × List Int)) (st : St) (w : Nat) : (D.lst (dueD B st w)).plain = true := by
  match w with
  | 0 => exact plain_ints _
  | 1 => exact plainP _
  | 2 => exact plain_ints _
  | _ + 3 => exact plainF _
theorem okDue (B : List (Int × List Int)) (st : St) (w : Nat) : D.ok 8 (.lst (dueD B st w)) = true := by
  match w with
  | 0 => exact ok_ints 7 _
  | 1 => exact okP 7 _
  | 2 => exact ok_ints 7 _
  | _ + 3 => exact okF 4 _
theorem i_due {B : List (Int × List Int)} {st : St} {w : Nat} {Q : D → Prop} (hw : w < 4) (q : Q (.lst (dueD B st w))) : idxT (.lst [.lst (st.std.map D.int), .lst ((placesF B st.std).map dO), .lst (st.lft.map D.int), .lst (dFil st.fil)]) (.int w) Q := by
  rw [i_lst]
  refine ⟨by first | with_reducible exact oo1 _ | omega, by first | with_reducible exact oon ‹_› | omega, .lst (dueD B st w), ?_, q⟩
  match w, hw with
  | 0, _ => rfl
  | 1, _ => rfl
  | 2, _ => rfl
  | 3, _ => rfl

structure Told (σ σ' : Sg) (a' : Addr) (as : List Addr) (es due : List D) (w : Nat) : Prop where
  at_ : σ' a' = some (.list es)
  fr : ∀ x ∈ a' :: as, σ x = none
  nd : (a' :: as).Nodup
  ext : Ext σ σ'
  inl : ∀ x ∈ as, ∃ ds, σ' x = some (.list ds) ∧ D.noLs ds = true ∧ ds.length ≤ 1000
  der : ∀ τ : Sg, (∀ x ∈ as, τ x = σ' x) → DerAll τ es due
  len : es.length ≤ 1000
  sh : w = 3 → ∃ l : List (Int × List D), es = tD l as ∧ as.length = l.length

section
variable {X : Cx} {c : CA} {n : Nat} {σ : Sg} {k : Nat} {B : List (Int × List Int)} {s : Int} {a dx b : Addr} {sts : List St} {st : St}
theorem told_plain {es : List D} {a' : Addr} {w : Nat} (ha : σ a' = none) (hl : es.length ≤ 1000) (hw : w ≠ 3) : Told σ (σ.put a' (.list es)) a' [] es es w :=
  ⟨Sg.put_self _ _ _, (fun x hx => by rw [List.mem_singleton.mp hx]; exact ha), by simp, Ext.put ha, (fun xx h => by cases h), fun xx xx => DerAll.same _, hl, fun e => absurd e hw⟩
theorem asked_spec (H : Has X c) {Q : D → Sg → Prop} {w : Nat} (hw : w < 4) (h : CntAt c σ a dx b k B s sts) (hlast : sts.getLast? = some st) (hlen : sts.length ≤ 900) (hB : Bal k B) (hg : Good k B s st) (hl : st.std.length ≤ 100) (hs : s ≤ 100)
    (q : ∀ a' as es σ', Told σ σ' a' as es (dueD B st w) w → Q (.ref a') σ') : CallSem X (n + 1 + 1 + 1) "_law_asked" [.ref a, .int w] σ Q := by
  have hBl := hB.len
  have hll := hg.llen
  have hf := hg.fle
  have hpl : (placesF B st.std).length = B.length := by simp [placesF]
  apply call_law_asked H
  simp only [m_law_asked]
  rw [ms_cons]
  simp only [E.cst, E.var, E.cmp, S.iff, q_val, c_eq, cond_bool, flD, g_z, g_s, decide_eq_true_eq, ms_nil]
  by_cases h0 : (w : Int) = 0
  · rw [if_pos h0]
    have e : w = 0 := by omega
    subst e
    rw [ms_cons]
    simp only [E.var, S.ret, q_val, E.meth, g_z, ms_nil]
    refine x_meth h H.cnt.standing rfl (standing_specT H h hlast (by first | with_reducible exact oo3 ‹_› | omega) (by first | with_reducible exact oo3 ‹_› | omega) fun a' ha' => ⟨keep_put _ _ _, q a' [] _ _ (told_plain ha' (by simp [dueD]; (first | with_reducible exact oo3 ‹_› | omega)) (by decide))⟩)
  rw [if_neg h0]
  rw [ms_cons]
  simp only [E.cst, E.var, E.cmp, S.iff, q_val, c_eq, cond_bool, g_z, g_s, decide_eq_true_eq, ms_nil]
  by_cases h1 : (w : Int) = 1
  · rw [if_pos h1]
    have e : w = 1 := by omega
    subst e
    rw [ms_cons]
    simp only [E.var, S.ret, q_val, E.meth, g_z, ms_nil]
    refine x_meth h H.cnt.places rfl (hasPlacesT H h hlast (by first | with_reducible exact oo3 ‹_› | omega) (by first | with_reducible exact oo3 ‹_› | omega) fun a' ha' => ⟨keep_put _ _ _, q a' [] _ _ (told_plain ha' (by simp only [dueD, List.length_map]; (first | with_reducible exact oo9 ‹_› ‹_› | omega)) (by decide))⟩)
  rw [if_neg h1]
  rw [ms_cons]
  simp only [E.cst, E.var, E.cmp, S.iff, q_val, c_eq, cond_bool, g_z, g_s, decide_eq_true_eq, ms_nil]
  by_cases h2 : (w : Int) = 2
  · rw [if_pos h2]
    have e : w = 2 := by omega
    subst e
    rw [ms_cons]
    simp only [E.var, S.ret, q_val, E.meth, g_z, ms_nil]
    refine x_meth h H.cnt.left rfl (hasLeftT H h hlast (by first | with_reducible exact oo3 ‹_› | omega) (by first | with_reducible exact oo9 ‹_› ‹_› | omega) fun a' ha' => ⟨keep_put _ _ _, q a' [] _ _ (told_plain ha' (by simp only [dueD, List.length_map]; (first | with_reducible exact oo9 ‹_› ‹_› | omega)) (by decide))⟩)
  rw [if_neg h2]
  have e : w = 3 := by omega
  subst e
  rw [ms_cons]
  simp only [E.var, S.ret, q_val, E.meth, g_z, ms_nil]
  refine x_meth h H.cnt.seats rfl (seats_specT H h hlast (by first | with_reducible exact oo3 ‹_› | omega) (by omega) (fun f hf => by have := hg.fbe f hf; (first | with_reducible exact oo3 ‹_› | omega)) fun a' as σ' hat htl hnd hfr hext => ⟨hext.keep, q a' as _ σ' ⟨hat, hfr, hnd, hext, fun x hx => ?_, fun τ hτ => ?_, by rw [tD_len htl.len]; simp [fLs]; omega, fun xx => ⟨_, rfl, htl.len⟩⟩⟩)
  · obtain ⟨i, hi, rfl⟩ := List.getElem_of_mem hx
    have hi' : i < (fLs st.fil).length := by rw [← htl.len]; exact hi
    refine ⟨_, htl.one i hi' hi, ?_, ?_⟩
    · simp only [fLs, List.getElem_map]
      refine noLs_all fun d hd => ?_
      obtain ⟨p, _, rfl⟩ := List.mem_map.mp hd
      rfl
    · simp only [fLs, List.getElem_map, dBe_len]
      have hi'' : i < st.fil.length := by simpa [fLs] using hi'
      have := hg.fbe _ (List.getElem_mem hi'')
      first | with_reducible exact oo3 ‹_› | omega
  · have h3 : TL τ (fLs st.fil) as := ⟨htl.len, fun i h1 h2 => by rw [hτ _ (List.getElem_mem h2)]; exact htl.one i h1 h2⟩
    have := h3.der
    rw [fLs_d] at this
    exact this
end
end L06
namespace L06
noncomputable def Soft (z : MV) : Prop := z = .unb ∨ ∃ d, z = .val d
theorem Soft.pk {z : MV} (h : Soft z) (vs : Nat → Value) (k : Nat) (ρ : List MV) : pinOk vs k (pin1 (vs k) z :: ρ) = pinOk vs (k + 1) ρ := by
  rcases h with rfl | ⟨d, rfl⟩
  · exact pk_u
  · exact propext ⟨fun h => h.2, fun h => ⟨rfl, h⟩⟩
theorem Soft.r1 {z : MV} (h : Soft z) (v : Value) : rest1 z (pin1 v z) = z := by
  rcases h with rfl | ⟨d, rfl⟩ <;> rfl
noncomputable def dK (kp : List (List D)) : List D := kp.map fun e => .tup [.lst e, .lst e]
noncomputable def Kok (e : List D) : Prop := D.ok 8 (.lst e) = true ∧ (D.lst e).plain = true

section
variable {X : Cx} {c : CA} {n : Nat} {σ : Sg} {k : Nat} {B : List (Int × List Int)} {s : Int} {a dx b : Addr} {sts : List St} {st : St}

theorem told_turn {σ' : Sg} {a' kc : Addr} {as : List Addr} {es : List D} {w : Nat} {cell j : Int} {kp : List (List D)} {a9 a10 a11 a12 : MV} {Q : Fl → List MV → Sg → Prop} (hw : w < 4) (ht : Told σ σ' a' as es (dueD B st w) w) (hkc : σ kc = some (.list (dK kp))) (hkl : kp.length ≤ 1000) (s11 : Soft a11) (s12 : Soft a12) (s9 : Soft a9) (s10 : Soft a10)
    (q : ∀ σ'' z8 z11 z12 kp', Soft z8 → Soft z11 → Soft z12 → σ'' kc = some (.list (dK kp')) → (∀ e ∈ kp', e ∈ kp ∨ Kok e) → kp'.length ≤ kp.length + 1 → (∀ x t, x ≠ kc → σ x = some t → σ'' x = some t) →
      Q .next [.val (.ref a), .val (.lst (dB B)), .val (dState st), .val (.int cell), .val (.ref kc), .val (.lst [.lst (st.std.map D.int), .lst ((placesF B st.std).map dO), .lst (st.lft.map D.int), .lst (dFil st.fil)]), .val (.int j), .val (.int w), z8, a9, a10, z11, z12] σ'') :
    mExecs X (n + 1 + 1 + 1) (b_law_stands_2.drop 2) [.val (.ref a), .val (.lst (dB B)), .val (dState st), .val (.int cell), .val (.ref kc), .val (.lst [.lst (st.std.map D.int), .lst ((placesF B st.std).map dO), .lst (st.lft.map D.int), .lst (dFil st.fil)]), .val (.int j), .val (.int w), .val (.ref a'), a9, a10, a11, a12] σ' Q := by
  have hlen := ht.len
  have hdl : (dueD B st w).length ≤ 1000 := by
    have : ∀ {τ : Sg} {xs ys : List D}, DerAll τ xs ys → xs.length = ys.length := by
      intro τ xs
      induction xs with
      | nil => intro ys h; cases h; rfl
      | cons x xs ih => intro ys h; cases h with | cons _ h2 => rw [List.length_cons, List.length_cons, ih h2]
    have := this (ht.der σ' fun xx xx => rfl)
    omega
  have hkn : ∀ x ∈ a' :: as, x ≠ kc := fun x hx e => by have := ht.fr x hx; rw [e, hkc] at this; cases this
  have hkc' : σ' kc = some (.list (dK kp)) := ht.ext _ _ hkc
  have ne' : ∀ x ∈ as, x ≠ a' := fun x hx e => (List.nodup_cons.mp ht.nd).1 (e ▸ hx)
  have old : ∀ x t, σ x = some t → x ∉ a' :: as := fun x t e hx => by rw [ht.fr x hx] at e; cases e
  simp only [b_law_stands_2, List.drop_succ_cons, List.drop_zero]
  rw [ms_cons]
  simp only [ev_nil, ev_cons, E.var, E.cmp, E.or_, E.not_, E.idx, E.bi, S.iff, fa_n, Mine.S.lendA, cond_bool, ms_nil, if_true]
  refine ⟨noK, [.lst (dueD B st w)], ⟨by rw [off_no]; exact .ref ht.at_ (ht.der σ' fun xx xx => rfl), trivial⟩, (fun b h => by cases h), fun vs => ?_⟩
  simp only [q_pin, pn_n, pn_c, p1_v, ra_n, ra_c, r1_p, pk_p, not_bool, f_islist, setAll, g_z, g_s, List.set_cons_zero, List.set_cons_succ, true_and, if_false, Bool.not_true, Bool.false_eq_true, Nat.reduceAdd]
  refine i_due hw ?_
  simp only [c_nex, okDue, eqv_self (plainDue B st w), true_and, Bool.not_true, Bool.false_eq_true, if_false]
  simp only [s9.pk, s10.pk, s11.pk, s12.pk, s9.r1, s10.r1, s11.r1, s12.r1, pk_n, Nat.reduceAdd, true_and, mix_no]
  refine ⟨(fun b h => by cases h), ?_⟩
  rw [ms_cons]
  simp only [E.cst, E.var, E.bin, E.cmp, S.iff, q_val, b_div, b_mod, c_eq, cond_bool, g_z, g_s, decide_eq_true_eq, ms_nil]
  refine ⟨by decide, ⟨by decide, by decide⟩, by decide, ?_⟩
  by_cases hkeep : Int.fmod (Int.fdiv cell 56) 2 = 0
  · rw [if_pos hkeep]
    have hK : ∀ x, decide (x ∈ a' :: as) = true ↔ x ∈ a' :: as := fun x => decide_eq_true_iff
    rw [ms_cons]
    simp only [q_val, Mine.S.sink, g_z, g_s, List.set_cons_zero, List.set_cons_succ]
    refine ⟨fun x => decide (x ∈ a' :: as), .lst (dueD B st w), fun x hx => ?_, ?_, ?_⟩
    · rcases List.mem_cons.mp ((hK x).mp hx) with rfl | hx
      · rw [ht.at_]; rfl
      · obtain ⟨ds, e, _⟩ := ht.inl x hx
        rw [e]; rfl
    · exact .ref ((Sg.on_t ((hK a').mpr List.mem_cons_self)).trans ht.at_) (ht.der _ fun x hx => Sg.on_t ((hK x).mpr (List.mem_cons_of_mem _ hx)))
    have hoff : ∀ x t, σ x = some t → σ'.off (fun x => decide (x ∈ a' :: as)) x = some t := fun x t e => (Sg.off_f (fun h => old x t e ((hK x).mp h))).trans (ht.ext x t e)
    rw [ms_cons]
    simp only [ev_nil, ev_cons, E.var, E.lst, E.tupE, E.idx, L.ofSeq, It.seq, S.expr, q_val, E.appT, g_z, g_s, ln_2, ms_nil]
    refine ⟨kc, _, rfl, hoff kc _ hkc, i_due hw ?_⟩
    simp only [q_one, List.length_map, map_headD]
    refine ⟨by first | with_reducible exact oo3 ‹_› | omega, by decide, _, hoff kc _ hkc, by simp [dK]; (first | with_reducible exact oo4 ‹_› | omega), ?_⟩
    refine q _ _ _ _ (kp ++ [dueD B st w]) (.inr ⟨_, rfl⟩) s11 s12 ?_ (fun e he => ?_) (by simp) fun x t hx e => ?_
    · rw [Sg.put_self, dK, dK, List.map_append]; rfl
    · rcases List.mem_append.mp he with he | he
      · exact .inl he
      · rw [List.mem_singleton.mp he]; exact .inr ⟨okDue B st w, plainDue B st w⟩
    · rw [Sg.put_ne hx]; exact hoff x t e
  rw [if_neg hkeep]
  have fin : ∀ (σ2 : Sg) (z11 z12 : MV) (es' : List D), Soft z11 → Soft z12 → σ2 a' = some (.list es') → es'.length ≤ 1000 → (∀ x t, σ x = some t → σ2 x = some t) → mExecs X (n + 1 + 1 + 1) [.expr (.appT (.var 8) (.cst .none))] [.val (.ref a), .val (.lst (dB B)), .val (dState st), .val (.int cell), .val (.ref kc), .val (.lst [.lst (st.std.map D.int), .lst ((placesF B st.std).map dO), .lst (st.lft.map D.int), .lst (dFil st.fil)]), .val (.int j), .val (.int w), .val (.ref a'), a9, a10, z11, z12] σ2 Q := by
    intro σ2 z11 z12 es' h11 h12 hat hl2 hold'
    rw [ms_cons]
    simp only [E.cst, E.var, S.expr, q_val, E.appT, g_z, g_s, ms_nil]
    refine ⟨a', _, rfl, hat, _, hat, by first | with_reducible exact oo4 ‹_› | omega, ?_⟩
    have hne : kc ≠ a' := fun e => hkn a' List.mem_cons_self e.symm
    refine q _ _ _ _ kp (.inr ⟨_, rfl⟩) h11 h12 ?_ (fun e he => .inl he) (Nat.le_succ _) fun x t hx e => ?_
    · rw [Sg.put_ne hne]; exact hold' _ _ hkc
    · have hxa : x ≠ a' := fun e' => old x t e (by rw [e']; exact List.mem_cons_self)
      rw [Sg.put_ne hxa]; exact hold' x t e
  rw [ms_cons]
  simp only [E.cst, E.var, E.cmp, S.iff, q_val, c_eq, cond_bool, g_z, g_s, decide_eq_true_eq, ms_nil]
  by_cases h3 : (w : Int) = 3
  · rw [if_pos h3]
    obtain ⟨l, hes, hal⟩ := ht.sh (by omega)
    have hK : ∀ x, decide (x ∈ as) = true ↔ x ∈ as := fun x => decide_eq_true_iff
    have hoffA : (σ'.off fun x => decide (x ∈ as)) a' = some (.list es) := (Sg.off_f (fun h => ne' a' ((hK a').mp h) rfl)).trans ht.at_
    rw [ms_cons]
    simp only [E.var, It.seq, S.for_, Mine.S.lendA, ln_2, ms_nil]
    refine ⟨fun x => decide (x ∈ as), [.lst es], ⟨.ref hoffA (DerAll.same _), trivial⟩, (fun x hx => ?_), fun vs => ?_⟩
    · obtain ⟨ds, e, _⟩ := ht.inl x ((hK x).mp hx)
      rw [e]; rfl
    simp only [q_pin, pn_n, pn_c, p1_v, setAll, g_z, g_s, List.set_cons_zero, List.set_cons_succ, decide_eq_true_eq, Nat.reduceAdd]
    have erow : tD l as = ((l.zip as).map fun p => [.int p.1.1, .ref p.2]).map D.tup := by unfold tD; rw [List.map_map]; rfl
    refine ⟨by decide, (l.zip as).map fun p => [.int p.1.1, .ref p.2], by rw [hes, erow], fun r hr => ?_, ?_⟩
    · obtain ⟨p, _, rfl⟩ := List.mem_map.mp hr
      rfl
    have hzl : ((l.zip as).map fun p => [D.int p.1.1, .ref p.2]).length ≤ 1000 := by
      rw [List.length_map, List.length_zip]
      have := ht.len
      rw [hes, tD_len hal] at this
      omega
    refine for_inv (fun i ρ σ2 => ∃ (z11 z12 : MV), (∀ ρ, pinOk vs 11 (z11 :: ρ) = pinOk vs 12 ρ) ∧ (∀ ρ, pinOk vs 12 (z12 :: ρ) = pinOk vs 13 ρ) ∧ Soft (rest1 a11 z11) ∧ Soft (rest1 a12 z12) ∧ (∀ x ∈ as, ∃ ds, σ2 x = some (.list ds) ∧ D.noLs ds = true ∧ ds.length ≤ 1000 + i) ∧
      ρ = [.pin (vs 0) (.ref a), .pin (vs 1) (.lst (dB B)), .pin (vs 2) (dState st), .pin (vs 3) (.int cell), .pin (vs 4) (.ref kc), .pin (vs 5) (.lst [.lst (st.std.map D.int), .lst ((placesF B st.std).map dO), .lst (st.lft.map D.int), .lst (dFil st.fil)]), .pin (vs 6) (.int j), .pin (vs 7) (.int w), .pin (vs 8) (.lst es), pin1 (vs 9) a9, pin1 (vs 10) a10, z11, z12]) ?_ ?_ ?_
    · refine ⟨_, _, s11.pk vs 11, s12.pk vs 12, by rw [s11.r1]; exact s11, by rw [s12.r1]; exact s12, fun x hx => ?_, rfl⟩
      obtain ⟨ds, e, h1, h2⟩ := ht.inl x hx
      exact ⟨ds, (Sg.on_t ((hK x).mpr hx)).trans e, h1, by first | with_reducible assumption | omega⟩
    · rintro i hi ρ σ2 ⟨z11, z12, _, _, _, _, hin, rfl⟩
      have hi' : i < (l.zip as).length := by rw [List.length_map] at hi; exact hi
      have hia : i < as.length := by rw [List.length_zip] at hi'; omega
      have hmem : (l.zip as)[i].2 ∈ as := by rw [List.getElem_zip]; exact List.getElem_mem hia
      simp only [List.getElem_map, b_law_stands_1]
      generalize (l.zip as)[i] = p at *
      obtain ⟨ds, e, h1, h2⟩ := hin p.2 hmem
      rw [ms_cons]
      simp only [ev_nil, ev_cons, E.cst, E.var, E.tupE, S.expr, q_val, E.appT, setAll, g_z, g_s, List.set_cons_zero, List.set_cons_succ, ln_2, ms_nil]
      refine ⟨p.2, _, rfl, e, by decide, _, e, by omega, .val (.int p.1.1), .val (.ref p.2), fun xx => pk_v, fun xx => pk_v, .inr ⟨_, rfl⟩, .inl rfl, fun x hx => ?_, rfl⟩
      by_cases ex : x = p.2
      · subst ex
        refine ⟨_, Sg.put_self _ _ _, noLs_all fun d hd => ?_, by rw [List.length_append, List.length_singleton]; omega⟩
        rcases List.mem_append.mp hd with hd | hd
        · have : ∀ {ds : List D}, D.noLs ds = true → ∀ d ∈ ds, d.noL = true := by
            intro ds
            induction ds with
            | nil => intro _ d hd; cases hd
            | cons y ys ih =>
              intro h d hd
              simp only [D.noLs, Bool.and_eq_true] at h
              rcases List.mem_cons.mp hd with rfl | hd
              · exact h.1
              · exact ih h.2 d hd
          exact this h1 d hd
        · rw [List.mem_singleton.mp hd]; rfl
      · obtain ⟨ds', e', h1', h2'⟩ := hin x hx
        exact ⟨ds', by rw [Sg.put_ne ex]; exact e', h1', by omega⟩
    · rintro ρ σ2 ⟨z11, z12, p11, p12, r11, r12, hin, rfl⟩
      simp only [ra_n, ra_c, r1_p, pk_p, fa_n, true_and, Nat.reduceAdd]
      simp only [s9.pk, s10.pk, p11, p12, s9.r1, s10.r1, pk_n, Nat.reduceAdd, true_and]
      refine ⟨fun x hx => ?_, ?_⟩
      · obtain ⟨ds, e, h1, _⟩ := hin x hx
        rw [e]; exact h1
      refine fin _ _ _ es r11 r12 ?_ ht.len fun x t e => ?_
      · show (if a' ∈ as then σ2 a' else σ' a') = _
        rw [if_neg (fun h => ne' a' h rfl)]; exact ht.at_
      · show (if x ∈ as then σ2 x else σ' x) = _
        rw [if_neg (fun h => old x t e (List.mem_cons_of_mem _ h))]; exact ht.ext x t e
  · rw [if_neg h3]
    exact fin σ' a11 a12 es s11 s12 ht.at_ ht.len ht.ext
end
end L06
namespace L06
theorem i_two {z : Int} {Q : D → Prop} (h0 : 0 ≤ z) (h1 : z < 2) (q : ∀ m, (m = 1 ∨ m = 3) → Q (.int m)) : idxT (.lst [.int 1, .int 3]) (.int z) Q := by
  rw [i_lst]
  refine ⟨h0, by omega, ?_⟩
  have : z = 0 ∨ z = 1 := by omega
  rcases this with rfl | rfl
  · exact ⟨_, rfl, q _ (.inl rfl)⟩
  · exact ⟨_, rfl, q _ (.inr rfl)⟩

section
variable {X : Cx} {c : CA} {n : Nat} {σ : Sg} {k : Nat} {B : List (Int × List Int)} {s : Int} {a dx b : Addr} {sts : List St} {st : St}
theorem CntAt.past {σ' : Sg} {kc : Addr} {ds : List D} (h : CntAt c σ a dx b k B s sts) (hk : σ kc = some (.list ds)) (hb : kc ≠ b) (e : ∀ x t, x ≠ kc → σ x = some t → σ' x = some t) : CntAt c σ' a dx b k B s sts :=
  ⟨e _ _ (fun q => by have := h.ins; rw [q, hk] at this; cases this) h.ins, e _ _ (fun q => by have := h.ns; rw [q, hk] at this; cases this) h.ns, e _ _ (Ne.symm hb) h.lst⟩
theorem stands_spec (H : Has X c) {Q : D → Sg → Prop} {kc : Addr} {kp : List (List D)} {cell : Int} (h : CntAt c σ a dx b k B s sts) (hlast : sts.getLast? = some st) (hlen : sts.length ≤ 900) (hk : k ≤ 12) (hB : Bal k B) (hg : Good k B s st) (hl : st.std.length ≤ 100) (hs : s ≤ 100)
    (hkc : σ kc = some (.list (dK kp))) (hkb : kc ≠ b) (hkl : kp.length ≤ 900) (hok : ∀ e ∈ kp, Kok e)
    (q : ∀ σ' kp', σ' kc = some (.list (dK kp')) → (∀ e ∈ kp', Kok e) → kp'.length ≤ kp.length + 4 → (∀ x t, x ≠ kc → σ x = some t → σ' x = some t) → Q (.bool true) σ') :
    CallSem X (n + 1 + 1 + 1 + 1) "_law_stands" [.ref a, .lst (dB B), dState st, .int cell, .ref kc] σ Q := by
  have hBl := hB.len
  apply call_law_stands H
  simp only [m_law_stands]
  rw [ms_cons]
  simp only [dState]
  simp only [ev_nil, ev_cons, E.cst, E.var, E.lst, E.idx, L.disp, L.comp, It.seq, S.asg, q_val, i_2, i_0, i_1, flD, g_z, g_s, List.set_cons_zero, List.set_cons_succ, ln_2, ln_4]
  refine rows2 ⟨by simp; (first | with_reducible exact oo3 ‹_› | omega), ?_⟩
  refine comp_l _ (fun xx => true) (fun b => dO (placeV b.2 st.std)) B (fun x hx K hK => hK) (fun x hx xx K hK => ?_) ?_
  · simp only [e_law_stands_1]
    simp only [ev_nil, ev_cons, E.cst, E.var, E.idx, E.call, q_val, i_0, setAll, g_z, g_s, List.set_cons_zero, List.set_cons_succ]
    refine lplace_spec H ?_ hK
    have := (hB.row x hx).len
    first | with_reducible exact ooc ‹_› ‹_› | omega
  have e1 : (B.filter fun xx => true).map (fun b => dO (placeV b.2 st.std)) = (placesF B st.std).map dO := by rw [filter_all, placesF, List.map_map]; rfl
  rw [e1]
  refine ⟨by decide, ?_⟩
  rw [ms_cons]
  simp only [E.cst, It.range, S.for_, q_int, ln_1, true_and]
  refine ⟨by decide, by decide, ?_⟩
  refine for_inv (fun j ρ σ' => ∃ (a6 a7 a8 a11 a12 : MV) (kp' : List (List D)), Soft a8 ∧ Soft a11 ∧ Soft a12 ∧ σ' kc = some (.list (dK kp')) ∧ (∀ e ∈ kp', Kok e) ∧ kp'.length ≤ kp.length + j ∧ (∀ x t, x ≠ kc → σ x = some t → σ' x = some t) ∧
    ρ = [.val (.ref a), .val (.lst (dB B)), .val (dState st), .val (.int cell), .val (.ref kc), .val (.lst [.lst (st.std.map D.int), .lst ((placesF B st.std).map dO), .lst (st.lft.map D.int), .lst (dFil st.fil)]), a6, a7, a8, .unb, .unb, a11, a12]) ?_ ?_ ?_
  · exact ⟨.unb, .unb, .unb, .unb, .unb, kp, .inl rfl, .inl rfl, .inl rfl, hkc, hok, Nat.le_refl _, fun xx xx xx e => e, rfl⟩
  · rintro j hj ρ σ' ⟨a6, a7, a8, a11, a12, kp', s8, s11, s12, hkc', hok', hkl', hkp, rfl⟩
    have hj4 : j < 4 := by simpa using hj
    have h' := CntAt.past h hkc hkb hkp
    simp only [List.getElem_map, List.getElem_range]
    have b0 := fmod_nn (a := cell.fdiv 7) (b := 2) (by decide)
    have b1 := fmod_ltt (a := cell.fdiv 7) (b := 2) (by decide)
    simp only [b_law_stands_2]
    rw [ms_cons]
    simp only [ev_nil, ev_cons, E.cst, E.var, E.bin, E.lst, E.idx, L.disp, S.asg, q_val, b_div, b_mod, setAll, g_z, g_s, List.set_cons_zero, List.set_cons_succ, ln_2]
    refine ⟨by decide, by decide, ⟨by decide, by decide⟩, by decide, i_two b0 b1 fun m hm => ?_⟩
    simp only [b_add, b_mul, b_mod]
    refine ⟨.inl ⟨by omega, by first | with_reducible exact oon ‹_› | omega⟩, by decide, ⟨by decide, by decide⟩, by decide, ?_⟩
    have w0 := fmod_nn (a := (j : Int) * m + cell.fdiv 14) (b := 4) (by decide)
    have w1 := fmod_ltt (a := (j : Int) * m + cell.fdiv 14) (b := 4) (by decide)
    have ew : ((j : Int) * m + cell.fdiv 14).fmod 4 = ((((j : Int) * m + cell.fdiv 14).fmod 4).toNat : Int) := by omega
    rw [ew]
    have hw : (((j : Int) * m + cell.fdiv 14).fmod 4).toNat < 4 := by omega
    generalize (((j : Int) * m + cell.fdiv 14).fmod 4).toNat = w at *
    rw [ms_cons]
    simp only [ev_nil, ev_cons, E.var, E.call, S.asg, q_val, g_z, g_s, List.set_cons_zero, List.set_cons_succ]
    refine asked_spec H hw h' hlast hlen hB hg hl hs fun a' as es σ2 ht => ?_
    refine told_turn (σ := σ') hw ht hkc' (by omega) s11 s12 (.inl rfl) (.inl rfl) fun σ3 z8 z11 z12 kp'' t8 t11 t12 hkc'' hsub hkl'' hkp'' => ?_
    refine ⟨_, _, z8, z11, z12, kp'', t8, t11, t12, hkc'', fun e he => (hsub e he).elim (hok' e) id, by omega, fun x t hx e => hkp'' x t hx (hkp x t hx e), rfl⟩
  · rintro ρ σ' ⟨a6, a7, a8, a11, a12, kp', s8, s11, s12, hkc', hok', hkl', hkp, rfl⟩
    have e4 : ((List.range (Int.toNat 4)).map fun (j : Nat) => [D.int (j : Int)]).length = 4 := by decide
    rw [e4] at hkl'
    rw [ms_cons]
    simp only [E.cst, S.ret, ms_nil]
    refine ⟨fun x hx => ?_, q σ' kp' hkc' hok' hkl' hkp⟩
    by_cases e : x = kc
    · rw [e, hkc']; simp
    · cases e' : σ x with
      | none => exact absurd e' hx
      | some t => rw [hkp x t e e']; simp
end
end L06
namespace L06
noncomputable def B2 : List (Int × List Int) := [(3, [1, 0]), (1, [0])]
theorem bal2 : Bal 2 B2 := ⟨by decide, by decide, fun b hb => by
  simp only [B2, List.mem_cons, List.not_mem_nil, or_false] at hb
  rcases hb with rfl | rfl
  · exact ⟨by decide, by decide⟩
  · exact ⟨by decide, by decide⟩⟩
theorem next2 : nextS 2 B2 1 (st0 2 B2) (.seat 1) = ⟨[0], [0, 1], [(1, [(0, 3)])]⟩ := by rfl
theorem hold2 : holdF 2 B2 (st0 2 B2) = [1, 3] := by rfl
theorem isNext2 : IsNext 2 B2 1 (st0 2 B2) (.seat 1) := by
  refine ⟨by decide, 1, ⟨by decide, ?_⟩, rfl, .inr ?_⟩
  · rw [hold2]
    intro c hc
    have : c = 0 ∨ c = 1 := by
      have : c ∈ ([0, 1] : List Int) := hc
      simpa using this
    rcases this with rfl | rfl
    · exact .inl (by decide)
    · exact .inr ⟨rfl, Int.le_refl _⟩
  · rw [hold2]; decide
section
variable {X : Cx} {c : CA} {n : Nat} {σ : Sg} {a dx b : Addr}
theorem beside_spec (H : Has X c) {Q : D → Sg → Prop} (h : CntAt c σ a dx b 2 B2 1 [st0 2 B2]) (q : ∀ σ', (∀ x, σ x ≠ none → σ' x ≠ none) → Q (.bool true) σ') : CallSem X (n + 1 + 1 + 1 + 1) "_law_beside" [.ref a] σ Q := by
  have hg := good0 bal2 (s := 1) (by decide) (by decide)
  have hg2 := (hg.next bal2 (by decide) isNext2).1
  have hl1 : [st0 2 B2].getLast? = some (st0 2 B2) := rfl
  apply call_law_beside H
  simp only [m_law_beside]
  rw [ms_cons]
  simp only [ev_nil, ev_cons, E.cst, E.var, E.cmp, E.or_, E.lst, E.tupE, L.disp, S.iff, q_val, E.meth, cond_bool, flD, g_z, ln_2, ms_nil, if_true]
  refine x_meth h H.cnt.left rfl (hasLeft H h hl1 (by decide) (by decide) ?_)
  have el : (st0 2 B2).lft.map D.int = [.int 3, .int 1] := rfl
  rw [el]
  refine ⟨by decide, ?_⟩
  have e1 := eqv_ints [3, 1] [3, 1]
  simp only [List.map_cons, List.map_nil, decide_true] at e1
  simp only [c_nex, e1, Bool.not_true, cond_bool, Bool.false_eq_true, if_false]
  refine ⟨rfl, rfl, ?_⟩
  refine x_meth h H.cnt.places rfl (hasPlaces H h hl1 (by decide) (by decide) ?_)
  have ep : (placesF B2 (st0 2 B2).std).map dO = [.int 1, .int 0] := rfl
  rw [ep]
  refine ⟨by decide, ?_⟩
  have e2 := eqv_ints [1, 0] [1, 0]
  simp only [List.map_cons, List.map_nil, decide_true] at e2
  simp only [c_nex, e2, Bool.not_true, cond_bool, Bool.false_eq_true, if_false]
  refine ⟨rfl, rfl, ?_⟩
  refine x_meth h H.cnt.step rfl (hasStep H h hl1 (by decide) (by decide) (by decide) (by decide) (by decide) bal2.row hg (fun hz => absurd hz (by decide)) fun t ht => ?_)
  obtain rfl := isNext2.eq ht
  have hpd := eqv_self (plainD (.seat 1))
  have hod := okD (.seat 1)
  simp only [dDeed, Deed.word, Deed.who] at hpd hod ⊢
  refine ⟨by decide, ?_⟩
  simp only [c_nex, hpd, hod, Bool.not_true, cond_bool, Bool.false_eq_true, if_false, true_and]
  have h2 := h.push (nextS 2 B2 1 (st0 2 B2) (.seat 1))
  rw [next2] at h2 hg2 ⊢
  have hl2 : ([st0 2 B2] ++ [⟨[0], [0, 1], [(1, [(0, 3)])]⟩] : List St).getLast? = some ⟨[0], [0, 1], [(1, [(0, 3)])]⟩ := rfl
  rw [ms_cons]
  simp only [ev_nil, ev_cons, E.cst, E.var, E.cmp, E.and_, E.lst, E.tupE, L.disp, S.ret, q_val, E.meth, c_is, cond_bool, g_z, ln_1, ln_2, ms_nil]
  refine x_meth h2 H.cnt.seats rfl (hasSeats H h2 hl2 (by decide) (by decide) (by decide) ?_)
  refine ⟨by decide, by decide, by decide, by decide, ?_⟩
  have e3 := eqv_self (plainF [(1, [(0, 3)])])
  have o3 := okF 4 [(1, [(0, 3)])]
  simp only [dFil, dBe, List.map_cons, List.map_nil] at e3 o3 ⊢
  simp only [c_eqx, e3, o3, cond_bool, if_true, true_and]
  refine x_meth h2 H.cnt.step rfl (hasStep H h2 hl2 (by decide) (by decide) (by decide) (by decide) (by decide) bal2.row hg2 (fun hz => ?_) fun t ht => absurd ht.1 (by decide))
  simp only [c_is, D.isNone, cond_bool, if_true]
  refine x_meth h2 H.cnt.standing rfl (standing_spec H h2 hl2 (by decide) (by decide) ?_)
  refine ⟨by decide, ?_⟩
  have e4 := eqv_ints [0] [0]
  simp only [List.map_cons, List.map_nil, decide_true] at e4 ⊢
  simp only [c_eqx, e4]
  exact ⟨rfl, rfl, keep_put _ _ _, q _ (keep_put _ _ _)⟩
end
end L06
namespace L06
noncomputable def But (y : Addr) (σ σ' : Sg) : Prop := ∀ x t, x ≠ y → σ x = some t → σ' x = some t
theorem But.put (y : Addr) (σ : Sg) (t : TObj) : But y σ (σ.put y t) := fun x t' hx e => by rw [Sg.put_ne hx]; exact e
theorem But.of {y : Addr} {σ σ' σ'' : Sg} (h : Ext σ σ') (h' : But y σ' σ'') : But y σ σ'' := fun x t hx e => h' x t hx (h x t e)
structure W (c : CA) (σ : Sg) (a1 dx1 b1 a2 dx2 b2 a3 dx3 b3 p kc : Addr) (k : Nat) (B : List (Int × List Int)) (s : Int) (past : List St) (st : St) (sts : List St) (st2 : St) (kp : List (List D)) : Prop where
  c1 : CntAt c σ a1 dx1 b1 k B s (past ++ [st])
  c2 : CntAt c σ a2 dx2 b2 2 B2 1 [st0 2 B2]
  c3 : CntAt c σ a3 dx3 b3 k B s sts
  l3 : sts.getLast? = some st2
  hp : σ p = some (.list (past.map dState))
  hk : σ kc = some (.list (dK kp))
  nd : [b1, b2, b3, p, kc].Nodup
  r1 : ∀ x ∈ past ++ [st], ∃ l, Run k B s l x
  r2 : ∃ l, Run k B s l st2
  ok : ∀ e ∈ kp, Kok e

section
variable {X : Cx} {c : CA} {n : Nat} {σ : Sg} {k : Nat} {B : List (Int × List Int)} {s : Int} {a1 dx1 b1 a2 dx2 b2 a3 dx3 b3 p kc : Addr} {past sts : List St} {st st2 : St} {kp : List (List D)}
theorem cnt_but {σ' : Sg} {a dx b y : Addr} {k : Nat} {B : List (Int × List Int)} {s : Int} {sts : List St} {ds : List D} (h : CntAt c σ a dx b k B s sts) (hy : σ y = some (.list ds)) (hb : y ≠ b) (e : But y σ σ') : CntAt c σ' a dx b k B s sts := CntAt.past h hy hb e
theorem cnt_set {a dx b : Addr} {k : Nat} {B : List (Int × List Int)} {s : Int} {sts sts' : List St} (h : CntAt c σ a dx b k B s sts) : CntAt c (σ.put b (.list (sts'.map dSt))) a dx b k B s sts' :=
  ⟨by rw [Sg.put_ne (fun e => by have := h.ins; rw [e, h.lst] at this; cases this)]; exact h.ins, by rw [Sg.put_ne (fun e => by have := h.ns; rw [e, h.lst] at this; cases this)]; exact h.ns, Sg.put_self _ _ _⟩
theorem W.apart (w : W c σ a1 dx1 b1 a2 dx2 b2 a3 dx3 b3 p kc k B s past st sts st2 kp) : b1 ≠ b2 ∧ b1 ≠ b3 ∧ b1 ≠ p ∧ b1 ≠ kc ∧ b2 ≠ b3 ∧ b2 ≠ p ∧ b2 ≠ kc ∧ b3 ≠ p ∧ b3 ≠ kc ∧ p ≠ kc := by
  have := w.nd
  simp only [List.nodup_cons, List.mem_cons, List.not_mem_nil, or_false, not_or, not_false_eq_true, List.nodup_nil, and_true] at this
  obtain ⟨⟨h1, h2, h3, h4⟩, ⟨h5, h6, h7⟩, ⟨h8, h9⟩, h10⟩ := this
  exact ⟨h1, h2, h3, h4, h5, h6, h7, h8, h9, h10⟩

theorem turn_spec (H : Has X c) {ns : List Int} {cell : Int} {a5 a14 a15 a16 : MV} {Q : Fl → List MV → Sg → Prop} (hk : k ≤ 12) (hB : Bal k B) (hs0 : 1 ≤ s) (hs : s ≤ k)
    (w : W c σ a1 dx1 b1 a2 dx2 b2 a3 dx3 b3 p kc k B s past st sts st2 kp) (hl1 : past.length ≤ 100) (hl3 : sts.length ≤ 100) (hlk : kp.length ≤ 500)
    (q : ∀ σ' past' st' sts' st2' kp' a16', W c σ' a1 dx1 b1 a2 dx2 b2 a3 dx3 b3 p kc k B s past' st' sts' st2' kp' → past'.length ≤ past.length + 1 → sts'.length ≤ sts.length + 1 → kp'.length ≤ kp.length + 4 →
      Q .next [.val (.lst (ns.map D.int)), .val (.int k), .val (.lst (dB B)), .val (.int s), .val (.int (quotaV B s)), a5, .val (.ref a1), .val (.ref a2), .val (.ref a3), .val (dState st'), .val (.lst [.bool true, dState st2']), .val (.ref p), .val (.ref kc), .val (.int cell), a14, a15, a16', .unb, .unb] σ') :
    mExecs X (n + 1 + 1 + 1 + 1) b_law_2 [.val (.lst (ns.map D.int)), .val (.int k), .val (.lst (dB B)), .val (.int s), .val (.int (quotaV B s)), a5, .val (.ref a1), .val (.ref a2), .val (.ref a3), .val (dState st), .val (.lst [.bool true, dState st2]), .val (.ref p), .val (.ref kc), .val (.int cell), a14, a15, a16, .unb, .unb] σ Q := by
  -- behind the first count's deed
  have rest : ∀ (σ1 : Sg) (past' : List St) (st' : St), W c σ1 a1 dx1 b1 a2 dx2 b2 a3 dx3 b3 p kc k B s past' st' sts st2 kp → past'.length ≤ past.length + 1 →
      mExecs X (n + 1 + 1 + 1 + 1) (b_law_2.drop 2) [.val (.lst (ns.map D.int)), .val (.int k), .val (.lst (dB B)), .val (.int s), .val (.int (quotaV B s)), a5, .val (.ref a1), .val (.ref a2), .val (.ref a3), .val (dState st), .val (.lst [.bool true, dState st2]), .val (.ref p), .val (.ref kc), .val (.int cell), a14, a15, .val (.lst [.bool true, dState st']), .unb, .unb] σ1 Q := by
    intro σ1 past' st' w hpl
    obtain ⟨l', hr'⟩ := w.r1 st' (by simp)
    obtain ⟨hg', hlk'⟩ := hr'.good hB hs0 hs
    have fin : ∀ (σ2 : Sg) (sts' : List St) (st2' : St), W c σ2 a1 dx1 b1 a2 dx2 b2 a3 dx3 b3 p kc k B s past' st' sts' st2' kp → sts'.length ≤ sts.length + 1 →
        mExecs X (n + 1 + 1 + 1 + 1) (b_law_2.drop 4) [.val (.lst (ns.map D.int)), .val (.int k), .val (.lst (dB B)), .val (.int s), .val (.int (quotaV B s)), a5, .val (.ref a1), .val (.ref a2), .val (.ref a3), .val (dState st'), .val (.lst [.bool true, dState st2']), .val (.ref p), .val (.ref kc), .val (.int cell), a14, a15, .val (.lst [.bool true, dState st']), .unb, .unb] σ2 Q := by
      intro σ2 sts' st2' w2 hsl
      obtain ⟨n12, n13, n1p, n1k, n23, n2p, n2k, n3p, n3k, npk⟩ := w2.apart
      simp only [b_law_2, List.drop_succ_cons, List.drop_zero]
      rw [ms_cons]
      simp only [ev_nil, ev_cons, E.cst, E.var, E.or_, E.not_, E.idx, E.call, S.iff, q_val, cond_bool, not_bool, i_0, g_z, g_s, ms_nil, if_true, if_false, Bool.not_true, Bool.false_eq_true]
      refine stands_spec H w2.c1 (by simp) (by simp; omega) hk hB hg' (by omega) (by omega) w2.hk (Ne.symm n1k) (by first | with_reducible exact oo3 ‹_› | omega) w2.ok fun σ3 kp' hk3 hok3 hkl3 e3 => ?_
      simp only [not_bool, if_false, Bool.not_true, Bool.false_eq_true]
      refine q σ3 past' st' sts' st2' kp' _ ⟨cnt_but w2.c1 w2.hk (Ne.symm n1k) e3, cnt_but w2.c2 w2.hk (Ne.symm n2k) e3, cnt_but w2.c3 w2.hk (Ne.symm n3k) e3, w2.l3, e3 _ _ npk w2.hp, hk3, w2.nd, w2.r1, w2.r2, hok3⟩ hpl hsl hkl3
    simp only [b_law_2, List.drop_succ_cons, List.drop_zero] at fin ⊢
    rw [ms_cons]
    simp only [E.cst, E.var, E.idx, S.asg, q_val, i_1, g_z, g_s, List.set_cons_zero, List.set_cons_succ]
    rw [ms_cons]
    simp only [E.cst, E.var, E.bin, E.cmp, S.iff, q_val, b_div, b_mod, c_eq, cond_bool, g_z, g_s, decide_eq_true_eq, ms_nil]
    refine ⟨by decide, ⟨by decide, by decide⟩, by decide, ?_⟩
    obtain ⟨n12, n13, n1p, n1k, n23, n2p, n2k, n3p, n3k, npk⟩ := w.apart
    split
    · rw [ms_cons]
      simp only [ev_nil, ev_cons, E.cst, E.var, E.idx, E.call, S.asg, q_val, i_1, g_z, g_s, List.set_cons_zero, List.set_cons_succ, ms_nil]
      obtain ⟨l2, hr2⟩ := w.r2
      obtain ⟨hg2, hlk2⟩ := hr2.good hB hs0 hs
      refine done_spec H w.c3 w.l3 (by first | with_reducible exact oo3 ‹_› | omega) hk hB hs0 hs hg2 (by omega) (fun xx => ?_) fun t ht σ2 e2 => ?_
      · exact fin σ1 sts st2 w (Nat.le_succ _)
      · have hb : But b3 σ1 (σ2.put b3 (.list ((sts ++ [nextS k B s st2 t]).map dSt))) := But.of e2 (But.put b3 σ2 _)
        have h3 := (CntAt.ext w.c3 e2).push (nextS k B s st2 t)
        refine fin _ (sts ++ [nextS k B s st2 t]) (nextS k B s st2 t) ⟨cnt_but w.c1 w.c3.lst (Ne.symm n13) hb, cnt_but w.c2 w.c3.lst (Ne.symm n23) hb, h3, by simp, hb _ _ (Ne.symm n3p) w.hp, hb _ _ (Ne.symm n3k) w.hk, w.nd, w.r1, ⟨_, hr2.snoc ht⟩, w.ok⟩ (by simp)
    · exact fin σ1 sts st2 w (Nat.le_succ _)
  simp only [b_law_2, List.drop_succ_cons, List.drop_zero] at rest ⊢
  obtain ⟨n12, n13, n1p, n1k, n23, n2p, n2k, n3p, n3k, npk⟩ := w.apart
  obtain ⟨l1, hr1⟩ := w.r1 st (by simp)
  obtain ⟨hg1, hlk1⟩ := hr1.good hB hs0 hs
  rw [ms_cons]
  simp only [ev_nil, ev_cons, E.cst, E.var, L.disp, S.asgM, q_val, g_z, g_s, List.set_cons_zero, List.set_cons_succ, ln_2]
  refine ⟨by decide, ?_⟩
  rw [ms_cons]
  simp only [E.cst, E.var, E.bin, E.cmp, S.iff, q_val, b_mod, c_eq, cond_bool, g_z, g_s, decide_eq_true_eq]
  refine ⟨by decide, ?_⟩
  split
  · rw [ms_cons]
    simp only [ev_nil, ev_cons, E.cst, E.var, E.call, S.setI, q_val, q_mt, q_int, g_z, g_s, List.set_cons_zero, List.set_cons_succ, ln_2]
    refine ⟨by decide, ?_⟩
    refine lback_spec H w.c1 w.hp (Ne.symm n1p) (by first | with_reducible exact oo3 ‹_› | omega) (fun he => ?_) fun hne => ?_
    · subst he
      refine ⟨by decide, by decide, ?_⟩
      rw [ms_cons]
      simp only [ev_nil, E.var, E.cmp, E.lst, L.disp, S.iff, E.lendE, cond_bool, ln_0, ms_nil]
      refine ⟨[.lst []], ⟨.ref w.hp (DerAll.same _), trivial⟩, ?_⟩
      simp only [q_val, setAll, g_z, g_s, List.set_cons_zero, List.set_cons_succ]
      refine ⟨by decide, ?_⟩
      have e0 := eqv_nil []
      simp only [List.map_nil] at e0
      simp only [c_nex, e0, decide_true, Bool.not_true, cond_bool, Bool.false_eq_true, if_false]
      refine ⟨rfl, rfl, rfl, ?_⟩
      rw [ms_cons]
      simp only [S.freeze, q_mt, g_z, g_s, List.set_cons_zero, List.set_cons_succ, ms_nil]
      exact rest σ [] st w (Nat.le_succ _)
    · obtain ⟨l, x, hlx⟩ : ∃ l x, past = l ++ [x] := ⟨past.dropLast, past.getLast hne, (List.dropLast_concat_getLast hne).symm⟩
      have hb : But b1 σ (σ.put b1 (.list (past.map dSt))) := But.put _ _ _
      have hp2 := hb _ _ (Ne.symm n1p) w.hp
      have h1 : CntAt c (σ.put b1 (.list (past.map dSt))) a1 dx1 b1 k B s past := cnt_set w.c1
      refine ⟨by decide, by decide, ?_⟩
      rw [ms_cons]
      simp only [ev_nil, E.var, E.cmp, E.lst, L.disp, S.iff, E.lendE, cond_bool, ln_0, ms_nil]
      refine ⟨[.lst (past.map dState)], ⟨.ref hp2 (DerAll.same _), trivial⟩, ?_⟩
      simp only [q_val, setAll, g_z, g_s, List.set_cons_zero, List.set_cons_succ]
      refine ⟨by decide, ?_⟩
      simp only [c_nex, eqv_nil, decide_eq_false hne, Bool.not_false, cond_bool, if_true]
      refine ⟨okSs 2 _, rfl, rfl, ?_⟩
      rw [ms_cons]
      simp only [E.cst, E.var, S.setI, q_val, q_mt, q_int, E.popT, g_z, g_s, List.set_cons_zero, List.set_cons_succ, ms_nil]
      have hp3 : (σ.put b1 (.list (past.map dSt))) p = some (.list (l.map dState ++ [dState x])) := by rw [hp2, hlx, List.map_append]; rfl
      refine ⟨Nat.le_of_ble_eq_true rfl, p, _, _, rfl, hp3, ?_, by decide, (show (1 : Int) < 2 by decide), ?_⟩
      · rw [hlx, List.length_append] at hl1
        rw [List.length_map]; omega
      have hb2 : But p (σ.put b1 (.list (past.map dSt))) ((σ.put b1 (.list (past.map dSt))).put p (.list (l.map dState))) := But.put _ _ _
      rw [ms_cons]
      simp only [S.freeze, q_mt, g_z, g_s, List.set_cons_zero, List.set_cons_succ, ms_nil]
      have c1' := cnt_but h1 hp2 (Ne.symm n1p) hb2
      have c2' := cnt_but (cnt_but w.c2 w.c1.lst n12 hb) hp2 (Ne.symm n2p) hb2
      have c3' := cnt_but (cnt_but w.c3 w.c1.lst n13 hb) hp2 (Ne.symm n3p) hb2
      rw [hlx] at c1'
      refine rest _ l x ⟨by rw [hlx]; exact c1', c2', c3', w.l3, Sg.put_self _ _ _, hb2 _ _ (Ne.symm npk) (hb _ _ (Ne.symm n1k) w.hk), w.nd, fun y hy => w.r1 y ?_, w.r2, w.ok⟩ (by rw [hlx, List.length_append]; omega)
      rw [hlx]; exact List.mem_append_left _ hy
  · rw [ms_cons]
    simp only [ev_nil, ev_cons, E.var, E.call, S.asg, q_val, g_z, g_s, List.set_cons_zero, List.set_cons_succ]
    refine done_spec H w.c1 (by simp) (by simp; (first | with_reducible exact oo3 ‹_› | omega)) hk hB hs0 hs hg1 (by omega) (fun xx => ?_) fun t ht σ2 e2 => ?_
    · rw [ms_cons]
      simp only [E.cst, E.var, E.cmp, E.idx, S.iff, q_val, cond_bool, i_1, g_z, g_s, ms_nil]
      simp only [c_nex, okS 3, eqv_self (plainS st), true_and, Bool.not_true, Bool.false_eq_true, if_false]
      exact rest σ past st w (Nat.le_succ _)
    · have hb : But b1 σ (σ2.put b1 (.list (((past ++ [st]) ++ [nextS k B s st t]).map dSt))) := But.of e2 (But.put b1 σ2 _)
      have h1 := (CntAt.ext w.c1 e2).push (nextS k B s st t)
      have hne : dState (nextS k B s st t) ≠ dState st := fun e => by
        have hlen := (hg1.next hB (by first | with_reducible exact oop ‹_› | omega) ht).2
        have : (nextS k B s st t).std.map D.int = st.std.map D.int := by
          have := D.lst.inj e
          simp only [List.cons.injEq, D.lst.injEq] at this
          exact this.1
        have := congrArg List.length this
        rw [List.length_map, List.length_map] at this
        omega
      have hp2 := hb _ _ (Ne.symm n1p) w.hp
      rw [ms_cons]
      simp only [E.cst, E.var, E.cmp, E.idx, S.iff, q_val, cond_bool, i_1, g_z, g_s, ms_nil]
      simp only [c_nex, okS 3, eqv_ne (plainS _) (plainS _) hne, true_and, Bool.not_false, if_true]
      rw [ms_cons]
      simp only [E.var, S.expr, q_val, E.appT, g_z, g_s, ms_nil]
      refine ⟨p, _, rfl, hp2, _, hp2, by rw [List.length_map]; (first | with_reducible exact oo4 ‹_› | omega), ?_⟩
      have hb2 : But p (σ2.put b1 (.list (((past ++ [st]) ++ [nextS k B s st t]).map dSt))) ((σ2.put b1 (.list (((past ++ [st]) ++ [nextS k B s st t]).map dSt))).put p (.list (past.map dState ++ [dState st]))) := But.put _ _ _
      have c2' := cnt_but (cnt_but w.c2 w.c1.lst n12 hb) hp2 (Ne.symm n2p) hb2
      have c3' := cnt_but (cnt_but w.c3 w.c1.lst n13 hb) hp2 (Ne.symm n3p) hb2
      have c1' := cnt_but h1 hp2 (Ne.symm n1p) hb2
      refine rest _ (past ++ [st]) (nextS k B s st t) ⟨c1', c2', c3', w.l3, by rw [Sg.put_self, List.map_append]; rfl, hb2 _ _ (Ne.symm npk) (hb _ _ (Ne.symm n1k) w.hk), w.nd, fun x hx => ?_, w.r2, w.ok⟩ (by simp)
      rcases List.mem_append.mp hx with hx | hx
      · exact w.r1 x hx
      · rw [List.mem_singleton.mp hx]; exact ⟨_, hr1.snoc ht⟩
end
end L06
namespace L06
section
variable {X : Cx} {c : CA} {n : Nat} {σ : Sg} {k : Nat} {B : List (Int × List Int)} {s : Int}
theorem makeC (H : Has X c) {d : D} (hder : Der σ d (.lst (dB B))) (hk0 : 1 ≤ k) (hk : k ≤ 12) (hs0 : 1 ≤ s) (hs : s ≤ k) (hB : Bal k B) {P : Addr → Sg → Prop}
    (q : ∀ σ' a dx b, CntAt c σ' a dx b k B s [st0 k B] → σ b = none → Ext σ σ' → P a σ') :
    ∀ a dx, a ≠ dx → σ a = none → σ dx = none → CallA X (n + 1 + 1 + 1 + 1 + 1) (.ref c.init) [.ref a, .int k, d, .int s] ((σ.put dx (.ns [])).put a (.inst c.C dx)) fun d σ' => d = .none ∧ P a σ' := by
  intro a dx hne ha hdx
  have e0 : Ext σ ((σ.put dx (.ns [])).put a (.inst c.C dx)) := (Ext.put hdx).trans (Ext.put (by rw [Sg.put_ne hne]; exact ha))
  refine init_specT H (Sg.put_self _ _ _) (by rw [Sg.put_ne (Ne.symm hne)]; exact Sg.put_self _ _ _) (der_mono (fun b ds e => e0 b _ e) hder) hk0 hk hs0 hs hB fun σ' b h hb ho => ⟨rfl, q σ' a dx b h ?_ fun x t e => ?_⟩
  · cases e : σ b with
    | none => rfl
    | some t => rw [e0 b t e] at hb; cases hb
  · have hx := e0 x t e
    rw [ho x (fun q => by rw [q, hdx] at e; cases e) (fun q => by rw [q, hb] at hx; cases hx)]
    exact hx
theorem der_copy {a : Addr} {as : List Addr} (h : σ a = some (.list (tD (bL B) as))) (ht : TL σ (bL B) as) : Der σ (.ref a) (.lst (dB B)) := .ref h (bL_d (B := B) ▸ ht.der)

theorem law_spec (H : Has X c) {ns : List Int} (hl : ns.length ≤ 63) : CallSem X (n + 1 + 1 + 1 + 1 + 1 + 1 + 1 + 1) "law" [.lst (ns.map D.int)] empS (fun d xx => d = .bool true) := by
  apply call_law H
  simp only [m_law]
  rw [ms_cons]
  simp only [ev_nil, ev_cons, E.var, E.call, S.asg, q_val, flD, g_z, List.set_cons_zero, List.set_cons_succ]
  refine hasCand H hl fun k hk0 hk1 => ?_
  rw [ms_cons]
  simp only [ev_nil, ev_cons, E.var, E.call, S.asg, q_val, g_z, g_s, List.set_cons_zero, List.set_cons_succ]
  refine hasBal H hl (by first | with_reducible exact oo3 ‹_› | omega) fun B hB => ?_
  have hBl := hB.len
  have hdl : (dB B).length = B.length := by simp [dB]
  rw [ms_cons]
  simp only [ev_nil, ev_cons, E.cst, E.var, E.bin, E.call, S.asg, q_val, g_z, g_s, List.set_cons_zero, List.set_cons_succ]
  refine hasCell H hl (by decide) (by decide) ?_
  simp only [b_add, b_mod]
  refine ⟨by omega, ?_⟩
  have s0 := fmod_nn (a := cellV ns 4) (b := (k : Int)) (by first | with_reducible exact ooq ‹_› | omega)
  have s1 := fmod_ltt (a := cellV ns 4) (b := (k : Int)) (by first | with_reducible exact ooq ‹_› | omega)
  generalize hsv : 1 + (cellV ns 4).fmod k = s
  have hs0 : 1 ≤ s := by omega
  have hs : s ≤ k := by omega
  clear hsv s0 s1
  rw [ms_cons]
  simp only [ev_nil, ev_cons, E.cst, E.var, E.bin, E.lst, E.bi, L.comp, It.seq, S.asg, q_val, b_add, g_z, g_s, List.set_cons_zero, List.set_cons_succ, ln_2]
  have e1 : (B.filter fun xx => true).map (fun b => D.int b.1) = (B.map (·.1)).map D.int := by rw [filter_all, List.map_map]; rfl
  refine rows2 ⟨by simp; (first | with_reducible exact oo3 ‹_› | omega), ?_⟩
  refine comp_l _ (fun xx => true) (fun b => .int b.1) B (fun x hx K hK => hK) (fun x hx xx K hK => ?_) ?_
  · simp only [e_law_1]
    simp only [E.var, q_val, setAll, g_z, g_s, List.set_cons_zero, List.set_cons_succ]
    exact hK
  rw [e1]
  simp only [b_add, b_div, f_sum]
  refine ⟨by omega, ⟨by omega, by omega⟩, ?_⟩
  have eq : Int.fdiv (List.map (fun x : Int × List Int => x.1) B).sum (s + 1) + 1 = quotaV B s := rfl
  rw [eq]
  rw [ms_cons]
  simp only [ev_nil, ev_cons, E.var, E.call, S.asg, q_val, g_z, g_s, List.set_cons_zero, List.set_cons_succ]
  refine copy_specT H (k := k) (by first | with_reducible exact oo3 ‹_› | omega) hB fun hd as σ1 hat htl hnd hfr ext1 => ?_
  rw [ms_cons]
  simp only [ev_nil, ev_cons, E.var, S.asg, q_val, E.make, g_z, g_s, List.set_cons_zero, List.set_cons_succ]
  refine ⟨c.C, c.init, _, H.cnt.mg, H.cnt.made, rfl, makeC H (der_copy hat htl) hk0 hk1 hs0 hs hB fun σ2 a1 dx1 b1 c1 fb1 ext2 => ?_⟩
  rw [ms_cons]
  simp only [ev_nil, ev_cons, E.cst, E.lst, E.tupE, L.disp, S.asg, E.make, List.set_cons_zero, List.set_cons_succ, ln_1, ln_2]
  refine ⟨c.C, c.init, _, H.cnt.mg, H.cnt.made, rfl, by decide, by decide, by decide, by decide, by decide, makeC (k := 2) (s := 1) (B := B2) H (.same _) (by decide) (by decide) (by decide) (by decide) bal2 fun σ3 a2 dx2 b2 c2 fb2 ext3 => ?_⟩
  rw [ms_cons]
  simp only [ev_nil, ev_cons, E.var, E.call, S.asg, q_val, E.make, g_z, g_s, List.set_cons_zero, List.set_cons_succ]
  refine ⟨c.C, c.init, _, H.cnt.mg, H.cnt.made, rfl, copy_specT H (k := k) (by first | with_reducible exact oo3 ‹_› | omega) hB fun hd2 as2 σ4 hat2 htl2 hnd2 hfr2 ext4 => ?_⟩
  refine makeC H (der_copy hat2 htl2) hk0 hk1 hs0 hs hB fun σ5 a3 dx3 b3 c3 fb3 ext5 => ?_
  have x15 : Ext σ1 σ5 := ext2.trans (ext3.trans (ext4.trans ext5))
  have hat5 := x15 _ _ hat
  have htl5 : TL σ5 (bL B) as := htl.mono fun a xx t e => x15 a t e
  have hda : hd ∉ as := (List.nodup_cons.mp hnd).1
  have c1' : CntAt c σ5 a1 dx1 b1 k B s [st0 k B] := CntAt.ext c1 (ext3.trans (ext4.trans ext5))
  have c2' : CntAt c σ5 a2 dx2 b2 2 B2 1 [st0 2 B2] := CntAt.ext c2 (ext4.trans ext5)
  have asx : ∀ x ∈ as, ∃ ds, σ1 x = some (.list ds) ∧ D.noLs ds = true ∧ ds.length ≤ 1000 := fun x hx => by
    obtain ⟨i, hi, rfl⟩ := List.getElem_of_mem hx
    have hi' : i < (bL B).length := by rw [← htl.len]; exact hi
    have hi2 : i < B.length := by simpa [bL] using hi'
    have := (hB.row _ (List.getElem_mem hi2)).len
    refine ⟨_, htl.one i hi' hi, ?_, ?_⟩
    · simp only [bL, List.getElem_map]; exact noL_ints _
    · simp only [bL, List.getElem_map, List.length_map]; (first | with_reducible exact ooc ‹_› ‹_› | omega)
  have fresh : ∀ {τ : Sg} {y : Addr}, Ext σ1 τ → τ y = none → y ∉ as ∧ y ≠ hd := fun {τ y} he hy => ⟨(fun hx => by
    obtain ⟨ds, e, _⟩ := asx y hx
    rw [he y _ e] at hy; cases hy), (fun e => by rw [e, he _ _ hat] at hy; cases hy)⟩
  obtain ⟨nb1, nh1⟩ := fresh (Ext.refl σ1) fb1
  obtain ⟨nb2, nh2⟩ := fresh ext2 fb2
  obtain ⟨nb3, nh3⟩ := fresh (ext2.trans (ext3.trans ext4)) fb3
  have b12 : b1 ≠ b2 := fun e => by have := c1.lst; rw [e, fb2] at this; cases this
  have b13 : b1 ≠ b3 := fun e => by have := (CntAt.ext c1 (ext3.trans ext4)).lst; rw [e, fb3] at this; cases this
  have b23 : b2 ≠ b3 := fun e => by have := (CntAt.ext c2 ext4).lst; rw [e, fb3] at this; cases this
  have hK : ∀ x, decide (x ∈ as) = true ↔ x ∈ as := fun x => decide_eq_true_iff
  rw [ms_cons]
  simp only [E.var, It.seq, S.for_, Mine.S.lendA, ln_2]
  refine ⟨fun x => decide (x ∈ as), [.lst (tD (bL B) as)], ⟨.ref ((Sg.off_f (fun h => hda ((hK hd).mp h))).trans hat5) (DerAll.same _), trivial⟩, (fun x hx => ?_), fun vs => ?_⟩
  · obtain ⟨ds, e, _⟩ := asx x ((hK x).mp hx)
    rw [x15 _ _ e]; rfl
  simp only [q_pin, pn_n, pn_c, p1_v, p1_u, setAll, g_z, g_s, List.set_cons_zero, List.set_cons_succ, decide_eq_true_eq, Nat.reduceAdd]
  have erow : tD (bL B) as = (((bL B).zip as).map fun p => [.int p.1.1, .ref p.2]).map D.tup := by unfold tD; rw [List.map_map]; rfl
  refine ⟨by decide, ((bL B).zip as).map fun p => [.int p.1.1, .ref p.2], by rw [erow], fun r hr => ?_, ?_⟩
  · obtain ⟨p, _, rfl⟩ := List.mem_map.mp hr
    rfl
  refine for_inv (fun i ρ σ2 => ∃ (z14 z15 : MV), (∀ ρ, pinOk vs 14 (z14 :: ρ) = pinOk vs 15 ρ) ∧ (∀ ρ, pinOk vs 15 (z15 :: ρ) = pinOk vs 16 ρ) ∧ (∀ x ∈ as, ∃ ds, σ2 x = some (.list ds) ∧ D.noLs ds = true ∧ ds.length ≤ 1000) ∧
    ρ = [.pin (vs 0) (.lst (ns.map D.int)), .pin (vs 1) (.int k), .pin (vs 2) (.lst (dB B)), .pin (vs 3) (.int s), .pin (vs 4) (.int (quotaV B s)), .pin (vs 5) (.lst (tD (bL B) as)), .pin (vs 6) (.ref a1), .pin (vs 7) (.ref a2), .pin (vs 8) (.ref a3), .unb, .unb, .unb, .unb, .unb, z14, z15, .unb, .unb, .unb]) ?_ ?_ ?_
  · refine ⟨_, _, fun xx => pk_u, fun xx => pk_u, fun x hx => ?_, rfl⟩
    obtain ⟨ds, e, h1, h2⟩ := asx x hx
    exact ⟨ds, (Sg.on_t ((hK x).mpr hx)).trans (x15 _ _ e), h1, h2⟩
  · rintro i hi ρ σ6 ⟨z14, z15, _, _, hin, rfl⟩
    have hi' : i < ((bL B).zip as).length := by rw [List.length_map] at hi; exact hi
    have hia : i < as.length := by rw [List.length_zip] at hi'; omega
    have hmem : ((bL B).zip as)[i].2 ∈ as := by rw [List.getElem_zip]; exact List.getElem_mem hia
    simp only [List.getElem_map, b_law_1]
    generalize ((bL B).zip as)[i] = p at *
    obtain ⟨ds, e, h1, h2⟩ := hin p.2 hmem
    rw [ms_cons]
    simp only [E.var, S.expr, q_val, E.clearT, setAll, g_z, g_s, List.set_cons_zero, List.set_cons_succ, ms_nil]
    refine ⟨p.2, _, rfl, e, by first | with_reducible exact oo3 ‹_› | omega, .val (.int p.1.1), .val (.ref p.2), fun xx => pk_v, fun xx => pk_v, fun x hx => ?_, rfl⟩
    by_cases ex : x = p.2
    · subst ex; exact ⟨[], Sg.put_self _ _ _, rfl, by decide⟩
    · obtain ⟨ds', e', h'⟩ := hin x hx
      exact ⟨ds', by rw [Sg.put_ne ex]; exact e', h'⟩
  · rintro ρ σ6 ⟨z14, z15, p14, p15, hin, rfl⟩
    simp only [ra_n, ra_c, r1_p, r1_u, pk_p, pk_u, fa_n, true_and, Nat.reduceAdd]
    simp only [p14, p15, pk_u, pk_n, Nat.reduceAdd, true_and]
    refine ⟨fun x hx => ?_, ?_⟩
    · obtain ⟨ds, e, h1, _⟩ := hin x hx
      rw [e]; exact h1
    generalize rest1 .unb z14 = y14
    generalize rest1 .unb z15 = y15
    have hmix : ∀ x t, x ∉ as → σ5 x = some t → (fun b => if b ∈ as then σ6 b else σ5 b) x = some t := fun x t hx e => (if_neg hx).trans e
    have cm : ∀ {a dx b : Addr} {k : Nat} {B : List (Int × List Int)} {s : Int} {sts : List St}, CntAt c σ5 a dx b k B s sts → b ∉ as → CntAt c (fun b => if b ∈ as then σ6 b else σ5 b) a dx b k B s sts := fun {a dx b k B s sts} h hb => by
      refine ⟨hmix _ _ (fun hx => ?_) h.ins, hmix _ _ (fun hx => ?_) h.ns, hmix _ _ hb h.lst⟩
      · obtain ⟨ds, e, _⟩ := asx a hx
        have := h.ins; rw [x15 _ _ e] at this; cases this
      · obtain ⟨ds, e, _⟩ := asx dx hx
        have := h.ns; rw [x15 _ _ e] at this; cases this
    have m1 := cm c1' nb1
    have m2 := cm c2' nb2
    have m3 := cm c3 nb3
    have hat6 := hmix _ _ hda hat5
    generalize (fun b => if b ∈ as then σ6 b else σ5 b) = σ7 at *
    rw [ms_cons]
    simp only [E.var, S.expr, q_val, E.clearT, g_z, g_s]
    refine ⟨hd, _, rfl, hat6, by rw [tD_len htl.len]; simp [bL]; (first | with_reducible exact oo3 ‹_› | omega), ?_⟩
    have w1 := cnt_but m1 hat6 (Ne.symm nh1) (But.put hd σ7 (.list []))
    have w2 := cnt_but m2 hat6 (Ne.symm nh2) (But.put hd σ7 (.list []))
    have w3 := cnt_but m3 hat6 (Ne.symm nh3) (But.put hd σ7 (.list []))
    generalize Sg.put σ7 hd (.list []) = σ8 at *
    rw [ms_cons]
    simp only [ev_nil, ev_cons, E.var, E.lst, L.disp, L.ofSeq, L.comp, It.seq, It.range, S.asg, q_val, q_int, g_z, g_s, List.set_cons_zero, List.set_cons_succ, ln_0, ln_2, List.length_map, true_and]
    have est : List.map (fun r : List D => r.headD .none) (List.map (fun (j : Nat) => [D.int (j : Int)]) (List.range (Int.toNat (k : Int)))) = (st0 k B).std.map D.int := by
      rw [Int.toNat_natCast, List.map_map, st0, List.map_map]; rfl
    refine ⟨by first | with_reducible exact oo2 _ | omega, by first | with_reducible exact oo5 ‹_› | omega, by simp; (first | with_reducible exact oo3 ‹_› | omega), ?_⟩
    refine rows2 ⟨by simp; (first | with_reducible exact oo3 ‹_› | omega), ?_⟩
    refine comp_l _ (fun xx => true) (fun b => .int b.1) B (fun x hx K hK => hK) (fun x hx xx K hK => ?_) ?_
    · simp only [e_law_2]
      simp only [E.var, q_val, setAll, g_z, g_s, List.set_cons_zero, List.set_cons_succ]
      exact hK
    rw [e1]
    simp only [est]
    refine ⟨by decide, Nat.le_of_ble_eq_true rfl, ?_⟩
    have eds : D.lst [.lst ((st0 k B).std.map D.int), .lst ((B.map (·.1)).map D.int), .lst []] = dState (st0 k B) := rfl
    rw [eds]
    rw [ms_cons]
    simp only [ev_nil, ev_cons, E.cst, E.var, E.lst, L.disp, S.asg, q_val, g_z, g_s, List.set_cons_zero, List.set_cons_succ, ln_2]
    refine ⟨by decide, ?_⟩
    rw [ms_cons]
    simp only [ev_nil, L.disp, S.asg, E.track, List.set_cons_zero, List.set_cons_succ, ln_0]
    refine ⟨by decide, fun p hp => ?_⟩
    rw [ms_cons]
    simp only [ev_nil, L.disp, S.asg, E.track, List.set_cons_zero, List.set_cons_succ, ln_0]
    refine ⟨by decide, fun kc hkc => ?_⟩
    have xa : Ext σ8 (Sg.put σ8 p (.list [])) := Ext.put hp
    have xb : Ext (Sg.put σ8 p (.list [])) (Sg.put (Sg.put σ8 p (.list [])) kc (.list [])) := Ext.put hkc
    have pk : p ≠ kc := fun e => by rw [← e, Sg.put_self] at hkc; cases hkc
    have fr8 : ∀ y, Sg.put σ8 p (.list []) y = none → σ8 y = none := fun y hy => by
      cases e : σ8 y with
      | none => rfl
      | some t => rw [xa _ _ e] at hy; cases hy
    have hkc8 := fr8 kc hkc
    have nl : ∀ {a dx b : Addr} {k : Nat} {B : List (Int × List Int)} {s : Int} {sts : List St}, CntAt c σ8 a dx b k B s sts → b ≠ p ∧ b ≠ kc := fun {a dx b k B s sts} h => ⟨(fun e => by have := h.lst; rw [e, hp] at this; cases this), (fun e => by have := h.lst; rw [e, hkc8] at this; cases this)⟩
    have W0 : W c (Sg.put (Sg.put σ8 p (.list [])) kc (.list [])) a1 dx1 b1 a2 dx2 b2 a3 dx3 b3 p kc k B s [] (st0 k B) [st0 k B] (st0 k B) [] := {
      c1 := CntAt.ext w1 (xa.trans xb)
      c2 := CntAt.ext w2 (xa.trans xb)
      c3 := CntAt.ext w3 (xa.trans xb)
      l3 := rfl
      hp := xb _ _ (Sg.put_self _ _ _)
      hk := Sg.put_self _ _ _
      nd := by
        simp only [List.nodup_cons, List.mem_cons, List.not_mem_nil, or_false, not_or, not_false_eq_true, List.nodup_nil, and_true]
        exact ⟨⟨b12, b13, (nl w1).1, (nl w1).2⟩, ⟨b23, (nl w2).1, (nl w2).2⟩, ⟨(nl w3).1, (nl w3).2⟩, pk⟩
      r1 := fun x hx => by
        rw [List.nil_append, List.mem_singleton] at hx
        rw [hx]; exact ⟨[], .nil⟩
      r2 := ⟨[], .nil⟩
      ok := fun xx h => by cases h }
    generalize Sg.put (Sg.put σ8 p (.list [])) kc (.list []) = σ9 at *
    rw [ms_cons]
    simp only [E.cst, E.var, E.lst, L.from_, It.seq, S.for_, q_val, q_int, q_lst, q_one, g_z, ln_1, List.length_map]
    refine ⟨by decide, by first | with_reducible exact oo3 ‹_› | omega, ?_⟩
    have ed : ((ns.map D.int).drop (Int.toNat 6)).map (fun d => [d]) = (ns.drop 6).map fun x => [D.int x] := by rw [← List.map_drop, List.map_map]; rfl
    rw [ed]
    refine for_inv (fun j ρ σ' => ∃ (past sts : List St) (st st2 : St) (kp : List (List D)) (a13 a16 : MV), W c σ' a1 dx1 b1 a2 dx2 b2 a3 dx3 b3 p kc k B s past st sts st2 kp ∧ past.length ≤ j ∧ sts.length ≤ j + 1 ∧ kp.length ≤ 4 * j ∧
      ρ = [.val (.lst (ns.map D.int)), .val (.int k), .val (.lst (dB B)), .val (.int s), .val (.int (quotaV B s)), .val (.ref hd), .val (.ref a1), .val (.ref a2), .val (.ref a3), .val (dState st), .val (.lst [.bool true, dState st2]), .val (.ref p), .val (.ref kc), a13, y14, y15, a16, .unb, .unb]) ?_ ?_ ?_
    · exact ⟨[], [st0 k B], st0 k B, st0 k B, [], .unb, .unb, W0, Nat.le_refl _, Nat.le_refl _, Nat.le_refl _, rfl⟩
    · rintro j hj ρ σ' ⟨past, sts, st, st2, kp, a13, a16, w, l1, l2, l3, rfl⟩
      rw [List.length_map, List.length_drop] at hj
      simp only [List.getElem_map, setAll, List.set_cons_zero, List.set_cons_succ]
      exact turn_spec H hk1 hB hs0 hs w (by omega) (by omega) (by omega) fun σ'' past' st' sts' st2' kp' a16' w' m1 m2 m3 => ⟨past', sts', st', st2', kp', _, a16', w', by omega, by omega, by omega, rfl⟩
    · rintro ρ σ' ⟨past, sts, st, st2, kp, a13, a16, w, l1, l2, l3, rfl⟩
      rw [List.length_map, List.length_drop] at l1 l2 l3
      obtain ⟨ll, hr2⟩ := w.r2
      obtain ⟨hg2, hlk2⟩ := hr2.good hB hs0 hs
      have hll2 := hg2.llen
      have hf2 := hg2.fle
      have triv : ∀ (τ : Sg), ∀ b, empS b ≠ none → τ b ≠ none := fun xx b h => absurd rfl h
      rw [ms_cons]
      simp only [E.cst, E.var, E.cmp, E.or_, E.idx, S.iff, q_val, E.meth, cond_bool, i_1, g_z, g_s, ms_nil, if_true]
      refine x_meth w.c3 H.cnt.standing rfl (standing_spec H w.c3 w.l3 (by omega) (by omega) ?_)
      simp only [dState]
      simp only [i_2, i_0, i_1]
      simp only [c_nex, ok_ints 7, eqv_self (plain_ints _), true_and, Bool.not_true, Bool.false_eq_true, if_false]
      refine x_meth w.c3 H.cnt.left rfl (hasLeft H w.c3 w.l3 (by omega) (by first | with_reducible exact oo9 ‹_› ‹_› | omega) ?_)
      simp only [c_nex, ok_ints 7, eqv_self (plain_ints _), true_and, Bool.not_true, Bool.false_eq_true, if_false]
      refine x_meth w.c3 H.cnt.seats rfl (hasSeats H w.c3 w.l3 (by omega) (by omega) (fun f hf => by have := hg2.fbe f hf; (first | with_reducible exact oo3 ‹_› | omega)) ?_)
      simp only [c_nex, okF 4, eqv_self (plainF _), true_and, Bool.not_true, Bool.false_eq_true, if_false]
      rw [ms_cons]
      simp only [ev_nil, ev_cons, E.var, E.cmp, E.and_, E.lst, E.call, L.disp, L.comp, It.seq, S.ret, q_val, E.lendE, cond_bool, g_z, g_s, ln_0, ln_2, ms_nil, reduceCtorEq]
      refine ⟨[.lst (dK kp)], ⟨.ref w.hk (DerAll.same _), trivial⟩, ?_⟩
      simp only [q_val, setAll, g_z, g_s, List.set_cons_zero, List.set_cons_succ]
      have erow : dK kp = (kp.map fun e => [D.lst e, .lst e]).map D.tup := by unfold dK; rw [List.map_map]; rfl
      refine ⟨by decide, kp.map fun e => [D.lst e, .lst e], by rw [erow], fun r hr => ?_, by simp; omega, ?_⟩
      · obtain ⟨e, _, rfl⟩ := List.mem_map.mp hr
        rfl
      refine comp_l _ (fun xx => false) (fun xx => .int 1) kp (fun e he K hK => ?_) (fun e he h => by cases h) ?_
      · obtain ⟨o, pl⟩ := w.ok e he
        simp only [p_law_1]
        simp only [cd_some, E.var, E.cmp, q_val, setAll, g_z, g_s, List.set_cons_zero, List.set_cons_succ]
        simp only [c_nex, o, eqv_self pl, true_and, Bool.not_true]
        exact hK
      have e0 := eqv_ints [] []
      simp only [List.map_nil] at e0
      rw [List.filter_eq_nil_iff.mpr (by simp)]
      simp only [List.map_nil, c_eqx, e0, decide_true]
      refine ⟨by decide, rfl, rfl, rfl, ?_⟩
      simp only [if_true]
      exact beside_spec H w.c2 fun σ'' xx => ⟨triv σ'', rfl⟩
end
end L06
end Mine
set_option tactic.hygienic true
open PySem PySem.W PyProof.Rows
set_option maxRecDepth 100000 in
set_option maxHeartbeats 8000000 in
theorem PySem.Challenge.cw_uf060016_06_holds : PySem.Challenge.rw_uf060016_06.Holds := by
  w_on
  refine holds_law ?_ fun said => ?_
  · repeat' (first | with_reducible refine look_both ?_ ?_ | delta OpenLaw.wellSaid | delta OpenRow.wellSaid | delta OpenRow.partSaid | delta OpenScript.wellSaid | delta looksOpen)
    all_goals decide +kernel
  o_head (kHook Mine.L06.frag Mine.L06.adrs (fun _ => by kernel_rfl))
  (case hw => w_witness2)
  intro w s₀ s₁ mg mb G Y fa o pm cd doc dV kV ho hd hcd hD hmg hg args vals as hpre hlay hrd hwl hlo
  refine Ground.open G ?_
  intro T B D TE TW
  wrow_args hpre hlay hrd hwl hlo
  rename_i hL _ hW _ hI _ _ hlen
  have H : Mine.L06.Has ⟨PySem.Challenge.rw_uf060016_06.row.toRowW.prog, w, s₁.heap, mg, mb⟩ Mine.L06.ca := {
    gnd := Mine.gnd_of_top T (by decide +kernel)
    is_whole_is := Mine.fnIs_of_top (f := "is_whole") (ps := ["thing", "least", "most"]) T (by kernel_rfl) (by decide +kernel)
    is_row_is := Mine.fnIs_of_top (f := "is_row") (ps := ["thing", "candidates"]) T (by kernel_rfl) (by decide +kernel)
    is_ballot_is := Mine.fnIs_of_top (f := "is_ballot") (ps := ["thing", "candidates"]) T (by kernel_rfl) (by decide +kernel)
    need_vote_is := Mine.fnIs_of_top (f := "need_vote") (ps := ["candidates", "ballots", "seats"]) T (by kernel_rfl) (by decide +kernel)
    most_held_is := Mine.fnIs_of_top (f := "most_held") (ps := ["holdings", "standing"]) T (by kernel_rfl) (by decide +kernel)
    least_held_is := Mine.fnIs_of_top (f := "least_held") (ps := ["holdings", "standing"]) T (by kernel_rfl) (by decide +kernel)
    deed_of_is := Mine.fnIs_of_top (f := "deed_of") (ps := ["holdings", "standing", "seats", "many"]) T (by kernel_rfl) (by decide +kernel)
    place_of_is := Mine.fnIs_of_top (f := "place_of") (ps := ["row", "standing"]) T (by kernel_rfl) (by decide +kernel)
    held_is := Mine.fnIs_of_top (f := "held") (ps := ["candidates", "places", "left"]) T (by kernel_rfl) (by decide +kernel)
    all_weights_is := Mine.fnIs_of_top (f := "all_weights") (ps := ["ballots"]) T (by kernel_rfl) (by decide +kernel)
    quota_is := Mine.fnIs_of_top (f := "quota") (ps := ["ballots", "seats"]) T (by kernel_rfl) (by decide +kernel)
    parts_is := Mine.fnIs_of_top (f := "parts") (ps := ["weights", "some"]) T (by kernel_rfl) (by decide +kernel)
    law_cell_is := Mine.fnIs_of_top (f := "_law_cell") (ps := ["_law_script", "_law_k"]) T (by kernel_rfl) (by decide +kernel)
    law_whole_is := Mine.fnIs_of_top (f := "_law_whole") (ps := ["_law_found"]) T (by kernel_rfl) (by decide +kernel)
    law_row_is := Mine.fnIs_of_top (f := "_law_row") (ps := ["_law_cell_here", "_law_candidates_here"]) T (by kernel_rfl) (by decide +kernel)
    law_weight_is := Mine.fnIs_of_top (f := "_law_weight") (ps := ["_law_cell_here", "_law_kind"]) T (by kernel_rfl) (by decide +kernel)
    law_candidates_is := Mine.fnIs_of_top (f := "_law_candidates") (ps := ["_law_script"]) T (by kernel_rfl) (by decide +kernel)
    law_ballots_is := Mine.fnIs_of_top (f := "_law_ballots") (ps := ["_law_script", "_law_candidates_here"]) T (by kernel_rfl) (by decide +kernel)
    law_copy_is := Mine.fnIs_of_top (f := "_law_copy") (ps := ["_law_ballots_here"]) T (by kernel_rfl) (by decide +kernel)
    law_place_is := Mine.fnIs_of_top (f := "_law_place") (ps := ["_law_row_here", "_law_standing"]) T (by kernel_rfl) (by decide +kernel)
    law_gather_is := Mine.fnIs_of_top (f := "_law_gather") (ps := ["_law_candidate", "_law_places", "_law_left"]) T (by kernel_rfl) (by decide +kernel)
    law_parts_is := Mine.fnIs_of_top (f := "_law_parts") (ps := ["_law_weights", "_law_some"]) T (by kernel_rfl) (by decide +kernel)
    law_first_is := Mine.fnIs_of_top (f := "_law_first") (ps := ["_law_holdings", "_law_standing"]) T (by kernel_rfl) (by decide +kernel)
    law_last_is := Mine.fnIs_of_top (f := "_law_last") (ps := ["_law_holdings", "_law_standing"]) T (by kernel_rfl) (by decide +kernel)
    law_after_is := Mine.fnIs_of_top (f := "_law_after") (ps := ["_law_ballots_here", "_law_seats", "_law_enough", "_law_state"]) T (by kernel_rfl) (by decide +kernel)
    law_asked_is := Mine.fnIs_of_top (f := "_law_asked") (ps := ["_law_count", "_law_which"]) T (by kernel_rfl) (by decide +kernel)
    law_stands_is := Mine.fnIs_of_top (f := "_law_stands") (ps := ["_law_count", "_law_ballots_here", "_law_state", "_law_cell_here", "_law_kept"]) T (by kernel_rfl) (by decide +kernel)
    law_done_is := Mine.fnIs_of_top (f := "_law_done") (ps := ["_law_count", "_law_ballots_here", "_law_seats", "_law_enough", "_law_state"]) T (by kernel_rfl) (by decide +kernel)
    law_beside_is := Mine.fnIs_of_top (f := "_law_beside") (ps := ["_law_beside_here"]) T (by kernel_rfl) (by decide +kernel)
    law_back_is := Mine.fnIs_of_top (f := "_law_back") (ps := ["_law_count", "_law_past"]) T (by kernel_rfl) (by decide +kernel)
    law_is := Mine.fnIs_of_top (f := "law") (ps := ["_law_script"]) T (by kernel_rfl) (by decide +kernel)
    Count_init_is := Mine.L06.at_init (kIn_of Y)
    Count_step_is := Mine.L06.at_step (kIn_of Y)
    Count_back_is := Mine.L06.at_back (kIn_of Y)
    Count_standing_is := Mine.L06.at_standing (kIn_of Y)
    Count_places_is := Mine.L06.at_places (kIn_of Y)
    Count_left_is := Mine.L06.at_left (kIn_of Y)
    Count_seats_is := Mine.L06.at_seats (kIn_of Y)
    cnt := Mine.L06.cnt (kIn_of Y) T.g }
  refine Mine.law_ends (k := 20) (by decide) hmg (Mine.list_plain hL hW) hI ((Mine.L06.law_spec (n := 0) H (by omega)).le (by decide)) fun h' tk hk => ?_
  refine ⟨.inl ⟨.bool true, .bool true, [], rfl, ?_, .bool true, ?_, ?_⟩, .of_keep hk, rfl, .of_eq hg⟩
  · intro cls; rfl
  · kernel_rfl
  · intro _; exact ⟨by simp, fun _ h => by cases h⟩

