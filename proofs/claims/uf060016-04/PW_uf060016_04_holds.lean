import PyProof.Rows.All
import PyProof.CompFree
import PyProof.WalksMore
import PyProof.WalksPairs
import PyProof.WalksEnum
import PyProof.ZipIter
import PyProof.ForAny
import PyProof.DefCall
import PyProof.Cells
import PyProof.Ns1
import PyProof.Dict
import PyProof.Rows.Nodes
import PyProof.P3Statements
import PyProof.Rows.RuleB_mul
import PyProof.Rows.RuleB_mod
import PyProof.Rows.RuleB_floordiv
import PyProof.Rows.RuleB_sub
import PyProof.Rows.RuleC_int
import PyProof.Rows.RuleU_int
import PyProof.Rows.IntRules
import PyProof.Rows.Chain
import PyProof.Rows.EqDataRows
import PyProof.Rows.TupSub
import PyProof.Rows.StrTemp
import PyProof.Rows.Own
import PyProof.Rules3
import PyProof.P3In
import PyProof.Rows.Globals
import PyProof.Rows.Exc
import PyProof.Rows.SumAny
import PyProof.IsiPairs
import PyProof.IsiSeqPairs
import PyProof.IsiNone
import PyProof.ListCopy
import PyProof.ListRange
import PyProof.TupleOfSeq
import PyProof.SliceList
import PyProof.Rows.SeqMore
import PyProof.Rows.ListMul
import PyProof.WalkInts
import PyProof.SliceMore
import PyProof.ForRange
import PyProof.Rows.Method
import PyProof.MeetsSeq
import PyProof.Methods
import PyProof.Rows.TupAssign
import PyProof.Raises
import PyProof.TupleIter
import PyProof.CompUse
import PyProof.EnumMake
import PyProof.Rows.ZipGen
import PyProof.Rows.CellsNews
import Wide.BridgeG
import Open.Line
import OpenK.KWalk
import OpenK.KMake
import OpenK.KCls
import PyProof.AssignAttr
import PyProof.Rows.AttrNode
import PyProof.NsCount
import PyProof.Rows.SeqMore2
import PyProof.StationsW
import PyProof.Rows.Catch
import PyProof.ExcClass3
import PyProof.ExcBaseAll.ValueError
import OpenK.KCall
import PyProof.RulesAs
import OpenK.KDescr
import PyProof.ExcArgsOwn
import PyProof.IsInstance
import OpenK.KMore
import PyProof.AutoSeq1
import Wide.All
import Wide.FinOn
import Lean
import PySem.Challenge.RW_uf060016_04
set_option Elab.async false
set_option linter.unusedVariables false
set_option linter.unusedSimpArgs false
set_option maxRecDepth 100000
set_option maxHeartbeats 4000000
set_option compiler.extract_closed false
set_option bootstrap.genMatcherCode false
set_option genSizeOf false
set_option genSizeOfSpec false
set_option genInjectivity false
set_option tactic.hygienic false
namespace Mine
open PySem PyProof.Rows
theorem oo1 (n : Nat) : (0 : Int) ≤ (n : Int) := Int.natCast_nonneg n
theorem oo2 (n : Nat) : -(2 ^ 62) ≤ (n : Int) := Int.le_trans (by decide) (oo1 n)
theorem oo3 {a b c : Nat} (h : a ≤ b) (hb : Nat.ble b c = true := by decide) : a ≤ c := Nat.le_trans h (Nat.le_of_ble_eq_true hb)
theorem oo4 {a b c : Nat} (h : a ≤ b) (hb : Nat.ble (b + 1) c = true := by decide) : a < c := Nat.lt_of_le_of_lt h (Nat.le_of_ble_eq_true hb)
theorem zb {a b : Nat} (h : a ≤ b) (hb : Nat.ble b 1000000 = true) : (a : Int) ≤ 1000000 := Int.ofNat_le.mpr (oo3 h hb)
theorem oo5 {a b : Nat} (h : a ≤ b) (hb : Nat.ble b 1000000 = true := by decide) : (a : Int) < 2 ^ 62 := Int.lt_of_le_of_lt (zb h hb) (by decide)
theorem oo6 {a b : Nat} (h : a ≤ b) (hb : Nat.ble b 1000000 = true := by decide) : (a : Int) < 2 ^ 63 := Int.lt_of_le_of_lt (zb h hb) (by decide)
theorem oo7 {a b c : Nat} (h : a < b) (h' : b ≤ c) (hb : Nat.ble c 1000000 = true := by decide) : (a : Int) < 2 ^ 63 := oo6 (Nat.le_trans (Nat.le_of_lt h) h') hb
theorem oo8 {a b : Nat} (h : a ≤ b) (hb : Nat.ble b 1000000 = true := by decide) : (a : Int) ≤ 2 ^ 20 := Int.le_trans (zb h hb) (by decide)
theorem oo9 {a b c d : Nat} (e : a = b) (h : b ≤ c) (hb : Nat.ble c d = true := by decide) : a ≤ d := oo3 (e ▸ h) hb
theorem ooa {a b c : Nat} (e : a = b) (h : b ≤ c) (hb : Nat.ble c 1000000 = true := by decide) : (a : Int) < 2 ^ 62 := oo5 (e ▸ h) hb
theorem oob {a b c d : Nat} (h : a < b) (h' : b ≤ c) (hb : Nat.ble c d = true := by decide) : a < d := Nat.lt_of_lt_of_le h (oo3 h' hb)
theorem ooc {a b c d : Nat} (h : a ≤ b) (h' : b ≤ c) (hb : Nat.ble c d = true := by decide) : a ≤ d := Nat.le_trans h (oo3 h' hb)
theorem ood {a b : Nat} (h : a < b) : (a : Int) < (b : Int) := Int.ofNat_lt.mpr h
theorem ooe {a b c : Nat} (h : a < b) (e : c = b) : a < c := e ▸ h
theorem oog {a b c : Nat} (h : a < b) (e : b = c) : a < c := e ▸ h
theorem ooh {a b c d e : Nat} (h : a = b) (h' : b = c) (h'' : c ≤ d) (hb : Nat.ble d e = true := by decide) : a ≤ e := oo3 (h ▸ h' ▸ h'') hb
theorem ooi {a b c d e : Nat} (h : a ≤ b) (h' : b = c) (h'' : c ≤ d) (hb : Nat.ble d e = true := by decide) : a ≤ e := Nat.le_trans h (oo9 h' h'' hb)
theorem ooj {a b c d e : Nat} (h : a < b) (h' : b = c) (h'' : c ≤ d) (hb : Nat.ble d e = true := by decide) : a < e := Nat.lt_of_lt_of_le h (oo9 h' h'' hb)
theorem ook {a b c d : Nat} (h : a < b) (h' : b = c) (h'' : c ≤ d) (hb : Nat.ble d 1000000 = true := by decide) : (a : Int) < 2 ^ 63 := oo7 h (h' ▸ h'') hb
theorem ool {a b c d e : Nat} (h : a = b) (h' : b ≤ c) (h2 : c = d) (h3 : d ≤ e) (hb : Nat.ble e 1048576 = true := by decide) : a ≤ 2 ^ 20 := Nat.le_trans (h ▸ h') (oo9 h2 h3 hb)
theorem oon {a b : Nat} (h : a < b) (hb : Nat.ble b 1000000 = true := by decide) : (a : Int) < 2 ^ 63 := oo6 (Nat.le_of_lt h) hb
theorem oop {s : Int} (h : 1 ≤ s) : 0 ≤ s := Int.le_trans (by decide) h
theorem ooq {k : Nat} (h : 1 ≤ k) : (0 : Int) < (k : Int) := Int.ofNat_lt.mpr h
theorem oos {x : Int} {k b : Nat} (h : 0 ≤ x ∧ x < (k : Int)) (h' : k ≤ b) (hb : Nat.ble b 1000000 = true := by decide) : x < 2 ^ 63 := Int.lt_trans h.2 (oo6 h' hb)
theorem oot {a b c : Nat} (h : a < b) (e : b = c) : (a : Int) < (c : Int) := ood (e ▸ h)
theorem oou {a b c : Nat} (h : a < b) (e : c = b) : (a : Int) < (c : Int) := ood (e ▸ h)
theorem oov {a b c d : Nat} (h : a < b) (e : b = c) (e' : d = c) : a < d := e' ▸ e ▸ h
theorem oow {a b c d : Nat} (h : a < b) (h' : b ≤ c) (hb : Nat.ble c d = true := by decide) : a ≤ d := Nat.le_of_lt (oob h h' hb)
theorem oox {a b : Nat} (h : a = b) : b ≤ a := Nat.le_of_eq h.symm
theorem ooy {a b c : Nat} (h : a < b) (e : b = c) (hb : Nat.ble 1 1 = true := by decide) : a ≤ c := e ▸ Nat.le_of_lt h
theorem ooz {x : Int} {a b : Nat} (h : x < (a : Int)) (e : b = a) : x < (b : Int) := e ▸ h
set_option genInjectivity true in
inductive D where
  | none
  | bool (b : Bool)
  | int (i : Int)
  | str (x : Str)
  | tup (ds : List D)
  | lst (ds : List D)
  | ref (a : Addr)

noncomputable abbrev Fz := Addr → Option Obj

mutual
inductive Rd (Φ : Fz) : Value → D → Prop
  | none : Rd Φ Value.none D.none
  | bool (b : Bool) : Rd Φ (Value.bool b) (D.bool b)
  | int (i : Int) (t : Tok) : Rd Φ (Value.int i t) (D.int i)
  | str (x : Str) (t : Tok) : Rd Φ (Value.str x t) (D.str x)
  | tup {a : Addr} {o : Obj} {vs : Array Value} {n : Nat} {ds : List D} : Φ a = some o → o.cls = .type "tuple" → o.data = .seq vs n → RdAll Φ vs.toList ds → Rd Φ (Value.ref a) (D.tup ds)
  | lst {a : Addr} {o : Obj} {vs : Array Value} {n : Nat} {ds : List D} : Φ a = some o → o.cls = .type "list" → o.data = .seq vs n → o.dict = .none → RdAll Φ vs.toList ds → Rd Φ (Value.ref a) (D.lst ds)
  | ref (a : Addr) : Rd Φ (Value.ref a) (D.ref a)
inductive RdAll (Φ : Fz) : List Value → List D → Prop
  | nil : RdAll Φ [] []
  | cons {v : Value} {vs : List Value} {d : D} {ds : List D} : Rd Φ v d → RdAll Φ vs ds → RdAll Φ (v :: vs) (d :: ds)
end
noncomputable def Fz.le (Φ Φ' : Fz) : Prop := ∀ b o, Φ b = some o → Φ' b = some o
theorem Fz.le.refl (Φ : Fz) : Fz.le Φ Φ := fun xx xx h => h
theorem Fz.le.trans {Φ Φ' Φ'' : Fz} (h : Fz.le Φ Φ') (h' : Fz.le Φ' Φ'') : Fz.le Φ Φ'' := fun b o e => h' b o (h b o e)

mutual
theorem Rd.mono {Φ Φ' : Fz} (hs : Fz.le Φ Φ') : ∀ {v : Value} {d : D}, Rd Φ v d → Rd Φ' v d
  | _, _, .none => .none
  | _, _, .bool b => .bool b
  | _, _, .int i t => .int i t
  | _, _, .str x t => .str x t
  | _, _, .tup h c e r => .tup (hs _ _ h) c e (RdAll.mono hs r)
  | _, _, .lst h c e z r => .lst (hs _ _ h) c e z (RdAll.mono hs r)
  | _, _, .ref a => .ref a
theorem RdAll.mono {Φ Φ' : Fz} (hs : Fz.le Φ Φ') : ∀ {vs : List Value} {ds : List D}, RdAll Φ vs ds → RdAll Φ' vs ds
  | _, _, .nil => .nil
  | _, _, .cons h r => .cons (Rd.mono hs h) (RdAll.mono hs r)
end
section
variable {Φ : Fz} {v : Value} {d : D} {vs ws : List Value} {ds es : List D}
theorem RdAll.length (h : RdAll Φ vs ds) : vs.length = ds.length := by
  induction vs generalizing ds with
  | nil => cases h; rfl
  | cons v vs ih =>
    cases h with
    | cons _ r => rw [List.length_cons, List.length_cons, ih r]
theorem RdAll.append (h : RdAll Φ vs ds) (k : RdAll Φ ws es) : RdAll Φ (vs ++ ws) (ds ++ es) := by
  induction vs generalizing ds with
  | nil => cases h; exact k
  | cons v vs ih =>
    cases h with
    | cons h r => exact .cons h (ih r)
theorem RdAll.one (h : Rd Φ v d) : RdAll Φ [v] [d] := .cons h .nil
theorem RdAll.get (h : RdAll Φ vs ds) {k : Nat} {d : D} (hk : ds[k]? = some d) : ∃ v, vs[k]? = some v ∧ Rd Φ v d := by
  induction vs generalizing ds k with
  | nil => cases h; simp at hk
  | cons v vs ih =>
    cases h with
    | cons h r =>
      cases k with
      | zero => simp at hk; subst hk; exact ⟨v, rfl, h⟩
      | succ k => exact ih r (by simpa using hk)
theorem RdAll.get' (h : RdAll Φ vs ds) {k : Nat} {v : Value} (hk : vs[k]? = some v) : ∃ d, ds[k]? = some d ∧ Rd Φ v d := by
  induction vs generalizing ds k with
  | nil => simp at hk
  | cons v vs ih =>
    cases h with
    | cons h r =>
      cases k with
      | zero => simp at hk; subst hk; exact ⟨_, rfl, h⟩
      | succ k => exact ih r (by simpa using hk)
theorem RdAll.set (h : RdAll Φ vs ds) (k : Nat) (hv : Rd Φ v d) : RdAll Φ (vs.set k v) (ds.set k d) := by
  induction vs generalizing ds k with
  | nil => cases h; exact .nil
  | cons u vs ih =>
    cases h with
    | cons h r =>
      cases k with
      | zero => exact .cons hv r
      | succ k => exact .cons h (ih r k)
theorem RdAll.eraseIdx (h : RdAll Φ vs ds) (k : Nat) : RdAll Φ (vs.eraseIdx k) (ds.eraseIdx k) := by
  induction vs generalizing ds k with
  | nil => cases h; exact .nil
  | cons u vs ih =>
    cases h with
    | cons h r =>
      cases k with
      | zero => exact r
      | succ k => exact .cons h (ih r k)
theorem RdAll.take (h : RdAll Φ vs ds) (k : Nat) : RdAll Φ (vs.take k) (ds.take k) := by
  induction vs generalizing ds k with
  | nil => cases h; simp; exact .nil
  | cons u vs ih =>
    cases h with
    | cons h r =>
      cases k with
      | zero => exact .nil
      | succ k => exact .cons h (ih r k)
theorem RdAll.drop (h : RdAll Φ vs ds) (k : Nat) : RdAll Φ (vs.drop k) (ds.drop k) := by
  induction vs generalizing ds k with
  | nil => cases h; simp; exact .nil
  | cons u vs ih =>
    cases h with
    | cons h r =>
      cases k with
      | zero => exact .cons h r
      | succ k => exact ih r k
end
inductive TObj where
  | list (ds : List D)
  | inst (C dx : Addr)
  | ns (fs : List (Str × D))
  | imap (f : Int → Option D) (m : Nat)
noncomputable abbrev Sg := Addr → Option TObj

inductive OvR (Φ : Fz) : Option Value → Option D → Prop
  | no : OvR Φ none none
  | so {v : Value} {d : D} : Rd Φ v d → OvR Φ (some v) (some d)
theorem OvR.mono {Φ Φ' : Fz} {v : Option Value} {d : Option D} (hl : Fz.le Φ Φ') (h : OvR Φ v d) : OvR Φ' v d := by
  cases h with
  | no => exact .no
  | so r => exact .so (r.mono hl)
noncomputable def TRel (Φ : Fz) (h : Heap) (a : Addr) : TObj → Prop
  | .list ds => ∃ vs, h.PlainList a vs ∧ RdAll Φ vs.toList ds
  | .inst C dx => h.get? a = some { cls := .ref C, dict := some dx, data := .plain }
  | .ns fs => ∃ m, h.Ns1 a m ∧ ∀ x, OvR Φ (m x) (fs.lookup x)
  | .imap f m => ∃ v, h.IntMap a v ∧ h.DictLe a m ∧ ∀ i, OvR Φ (v i) (f i)

structure Ok (g : Heap) (σ : Sg) (Φ : Fz) (h : Heap) : Prop where
  base : ∀ b o, g.get? b = some o → h.get? b = some o ∧ σ b = none
  frz : ∀ b o, Φ b = some o → h.get? b = some o ∧ σ b = none
  trk : ∀ a t, σ a = some t → TRel Φ h a t

theorem TRel.mono {Φ Φ' : Fz} {h h' : Heap} {a : Addr} {t : TObj} (hl : Fz.le Φ Φ') (hh : ∀ o, h.get? a = some o → h'.get? a = some o) (x : TRel Φ h a t) : TRel Φ' h' a t := by
  cases t with
  | list ds =>
    obtain ⟨vs, hv, hr⟩ := x
    exact ⟨vs, hv.at hh, hr.mono hl⟩
  | inst C dx => exact hh _ x
  | ns fs =>
    obtain ⟨m, hn, hr⟩ := x
    exact ⟨m, hn.at hh, fun y => (hr y).mono hl⟩
  | imap f m =>
    obtain ⟨v, hn, hz, hr⟩ := x
    obtain ⟨o, es, ep, ho, r⟩ := hn
    exact ⟨v, ⟨o, es, ep, hh _ ho, r⟩, hz.of_same ho (hh _ ho), fun y => (hr y).mono hl⟩

theorem TRel.isSome {Φ : Fz} {h : Heap} {a : Addr} {t : TObj} (x : TRel Φ h a t) : ∃ o, h.get? a = some o := by
  cases t with
  | list ds =>
    obtain ⟨vs, ⟨n, ho⟩, _⟩ := x
    exact ⟨_, ho⟩
  | inst C dx => exact ⟨_, x⟩
  | ns fs =>
    obtain ⟨m, ⟨o, _, _, ho, _⟩, _⟩ := x
    exact ⟨o, ho⟩
  | imap f m =>
    obtain ⟨v, ⟨o, _, _, ho, _⟩, _⟩ := x
    exact ⟨o, ho⟩

structure Step (g : Heap) (s s' : Shared) (Φ Φ' : Fz) (σ σ' : Sg) : Prop where
  same : ∃ h' tk, s' = { s with heap := h', toks := tk }
  keep : ∀ b o, s.heap.get? b = some o → σ b = none → s'.heap.get? b = some o
  mono : Fz.le Φ Φ'
  ok : Ok g σ' Φ' s'.heap
  newS : ∀ a, σ' a ≠ none → σ a ≠ none ∨ s.heap.get? a = none
  newF : ∀ b, Φ' b ≠ none → Φ b ≠ none ∨ σ b ≠ none ∨ s.heap.get? b = none
  live : ∀ b, s'.heap.get? b = none → s.heap.get? b = none

section
variable {g : Heap} {s s' s'' : Shared} {Φ Φ' Φ'' : Fz} {σ σ' σ'' : Sg}
theorem Step.refl (h : Ok g σ Φ s.heap) : Step g s s Φ Φ σ σ :=
  ⟨⟨s.heap, s.toks, rfl⟩, fun xx xx e xx => e, Fz.le.refl _, h, fun xx h => .inl h, fun xx h => .inl h, fun xx h => h⟩
theorem Step.trans (x : Step g s s' Φ Φ' σ σ') (y : Step g s' s'' Φ' Φ'' σ' σ'') : Step g s s'' Φ Φ'' σ σ'' := by
  have k : ∀ b, s.heap.get? b ≠ none → σ b = none → σ' b = none := fun b hb hs => by
    cases e : σ' b with
    | none => rfl
    | some t =>
      rcases x.newS b (by rw [e]; simp) with h | h
      · exact absurd hs h
      · exact absurd h hb
  have back : ∀ b, s'.heap.get? b = none → σ b ≠ none ∨ s.heap.get? b = none := fun b hb => by
    cases e : s.heap.get? b with
    | none => exact .inr rfl
    | some o =>
      left
      intro hs
      rw [x.keep b o e hs] at hb; cases hb
  refine ⟨?_, fun b o e hs => y.keep b o (x.keep b o e hs) (k b (by rw [e]; simp) hs), x.mono.trans y.mono, y.ok, fun a ha => ?_, fun b hb => ?_, fun b hb => x.live b (y.live b hb)⟩
  · obtain ⟨h', tk, rfl⟩ := x.same
    obtain ⟨h'', tk', rfl⟩ := y.same
    exact ⟨h'', tk', rfl⟩
  · rcases y.newS a ha with h | h
    · exact x.newS a h
    · exact back a h
  · rcases y.newF b hb with h | h | h
    · exact x.newF b h
    · rcases x.newS b h with h | h
      · exact .inr (.inl h)
      · exact .inr (.inr h)
    · exact .inr (back b h)
theorem Step.tok (h : Ok g σ Φ s.heap) (t : Nat) : Step g s { s with toks := t } Φ Φ σ σ :=
  ⟨⟨s.heap, t, rfl⟩, fun xx xx e xx => e, Fz.le.refl _, h, fun xx h => .inl h, fun xx h => .inl h, fun xx h => h⟩
theorem Step.keeps (h : Ok g σ Φ s.heap) {h' : Heap} {tk : Nat} (k : ∀ b o, s.heap.get? b = some o → h'.get? b = some o) : Step g s { s with heap := h', toks := tk } Φ Φ σ σ :=
  ⟨⟨h', tk, rfl⟩, fun b o e xx => k b o e, Fz.le.refl _,
    ⟨fun b o e => ⟨k b o (h.base b o e).1, (h.base b o e).2⟩, fun b o e => ⟨k b o (h.frz b o e).1, (h.frz b o e).2⟩, fun a t e => (h.trk a t e).mono (Fz.le.refl _) (k a)⟩,
    fun xx h => .inl h, fun xx h => .inl h, fun b hb => by
      cases e : s.heap.get? b with
      | none => rfl
      | some o => rw [k b o e] at hb; cases hb⟩

noncomputable def Fz.put (Φ : Fz) (a : Addr) (o : Obj) : Fz := fun b => if b = a then some o else Φ b
theorem Fz.put_self (Φ : Fz) (a : Addr) (o : Obj) : Fz.put Φ a o a = some o := by simp [Fz.put]
theorem Fz.put_ne {Φ : Fz} {a b : Addr} {o : Obj} (h : b ≠ a) : Fz.put Φ a o b = Φ b := by simp [Fz.put, h]
theorem Fz.le_put {Φ : Fz} {a : Addr} {o : Obj} (h : Φ a = none) : Fz.le Φ (Fz.put Φ a o) := fun b o' e => by
  by_cases hb : b = a
  · subst hb; rw [h] at e; cases e
  · rw [Fz.put_ne hb]; exact e

theorem Ok.freeze {hp : Heap} (h : Ok g σ Φ hp) {a : Addr} {o : Obj} (ho : hp.get? a = some o) (hs : σ a = none) (hf : Φ a = none) : Ok g σ (Fz.put Φ a o) hp :=
  ⟨h.base, fun b o' e => by
    by_cases hb : b = a
    · subst hb; rw [Fz.put_self] at e; cases e; exact ⟨ho, hs⟩
    · rw [Fz.put_ne hb] at e; exact h.frz b o' e, fun a t e => (h.trk a t e).mono (Fz.le_put hf) fun xx x => x⟩

theorem Step.freeze (x : Step g s s' Φ Φ' σ σ') {a : Addr} {o : Obj} (hn : s.heap.get? a = none) (ho : s'.heap.get? a = some o) (hs : σ' a = none) (hf : Φ' a = none) : Step g s s' Φ (Fz.put Φ' a o) σ σ' :=
  ⟨x.same, x.keep, x.mono.trans (Fz.le_put hf), x.ok.freeze ho hs hf, x.newS, fun b hb => by
    by_cases h : b = a
    · subst h; exact .inr (.inr hn)
    · rw [Fz.put_ne h] at hb; exact x.newF b hb, x.live⟩

theorem Step.outS (x : Step g s s' Φ Φ' σ σ') {a : Addr} {o : Obj} (ho : s.heap.get? a = some o) (hs : σ a = none) : σ' a = none := by
  cases e : σ' a with
  | none => rfl
  | some t =>
    rcases x.newS a (by rw [e]; simp) with h | h
    · exact absurd hs h
    · rw [ho] at h; cases h
theorem Step.outF (x : Step g s s' Φ Φ' σ σ') {a : Addr} {o : Obj} (ho : s.heap.get? a = some o) (hs : σ a = none) (hf : Φ a = none) : Φ' a = none := by
  cases e : Φ' a with
  | none => rfl
  | some t =>
    rcases x.newF a (by rw [e]; simp) with h | h | h
    · exact absurd hf h
    · exact absurd hs h
    · rw [ho] at h; cases h
theorem Ok.freshS (h : Ok g σ Φ s.heap) {a : Addr} (hn : s.heap.get? a = none) : σ a = none := by
  cases e : σ a with
  | none => rfl
  | some t => obtain ⟨o, ho⟩ := (h.trk a t e).isSome; rw [hn] at ho; cases ho
theorem Ok.freshF (h : Ok g σ Φ s.heap) {a : Addr} (hn : s.heap.get? a = none) : Φ a = none := by
  cases e : Φ a with
  | none => rfl
  | some t => have := (h.frz a t e).1; rw [hn] at this; cases this
end
theorem size_none (h : Heap) : h.get? h.objs.size = none := by
  cases e : h.get? h.objs.size with
  | none => rfl
  | some o => exact absurd (Heap.lt_size e) (Nat.lt_irrefl _)

structure Cx where
  prog : Program
  w : World
  g : Heap
  mg : Str → Option Value
  mb : Str → Option Value
  calm : Bool

noncomputable def Room (X : Cx) (n : Nat) (A : Around) : Prop := (X.calm = true → A.handled = none) ∧ A.depth + n < recursionLimit ∧ A.units + 8 * n + 200 < cLine

theorem Room.deeper {X : Cx} {n : Nat} {A : Around} {env : Env} (h : Room X (n + 1) A) : Room X n (A.deeper env) := by
  obtain ⟨h1, h2, h3⟩ := h
  refine ⟨h1, ?_, ?_⟩
  · show A.depth + 1 + n < recursionLimit; omega
  · show A.units + 3 + 8 * n + 200 < cLine; omega
theorem Room.le {X : Cx} {n m : Nat} {A : Around} (h : Room X n A) (hm : m ≤ n) : Room X m A := by
  obtain ⟨h1, h2, h3⟩ := h
  exact ⟨h1, by omega, by omega⟩

noncomputable def Ev (X : Cx) (s : Shared) (Φ : Fz) (σ : Sg) (Q : D → Sg → Prop) (v : Value) (s' : Shared) : Prop :=
  ∃ d σ' Φ', Step X.g s s' Φ Φ' σ σ' ∧ Rd Φ' v d ∧ Q d σ'
noncomputable def Evs (X : Cx) (s : Shared) (Φ : Fz) (σ : Sg) (Q : List D → Sg → Prop) (vs : List Value) (s' : Shared) : Prop :=
  ∃ ds σ' Φ', Step X.g s s' Φ Φ' σ σ' ∧ RdAll Φ' vs ds ∧ Q ds σ'
noncomputable def Evl (X : Cx) (s : Shared) (Φ : Fz) (σ : Sg) (Q : List D → Sg → Prop) (v : Value) (s' : Shared) : Prop :=
  ∃ a vs ds σ' Φ', v = .ref a ∧ Step X.g s s' Φ Φ' σ σ' ∧ s.heap.get? a = none ∧ s'.heap.PlainList a vs ∧ σ' a = none ∧ Φ' a = none ∧ RdAll Φ' vs.toList ds ∧ Q ds σ'
noncomputable def No : Value → Shared → Prop := fun xx xx => False

noncomputable def IsFn (X : Cx) (f : Str) : Prop := ∃ a o fd, X.mg f = some (.ref a) ∧ X.g.get? a = some o ∧ o.data = .func fd

noncomputable def CallA (X : Cx) (n : Nat) (f : Value) (ds : List D) (σ : Sg) (Q : D → Sg → Prop) : Prop :=
  ∀ A s Φ vs, Room X n A → Ok X.g σ Φ s.heap → RdAll Φ vs ds → codeAny (model X.prog X.w) A (.call f ⟨vs, []⟩) (fun r s' => match r with | .ok (.ret v) => Ev X s Φ σ Q v s' | .ok _ => False | .error e => No e s') s
theorem CallA.wp {X : Cx} {n : Nat} {f : Value} {ds : List D} {σ : Sg} {Q : D → Sg → Prop} (h : CallA X n f ds σ Q) {A : Around} {s : Shared} {Φ : Fz} {vs : List Value} (hr : Room X n A) (ok : Ok X.g σ Φ s.heap) (r : RdAll Φ vs ds) :
    wpAny (model X.prog X.w) A (call f vs) (Ev X s Φ σ Q) No s := wpAny_call (h A s Φ vs hr ok r)
theorem CallA.mono {X : Cx} {n k : Nat} {f : Value} {ds : List D} {σ : Sg} {Q Q' : D → Sg → Prop} (h : CallA X n f ds σ Q) (hk : n ≤ k) (hq : ∀ d σ, Q d σ → Q' d σ) : CallA X k f ds σ Q' :=
  fun A s Φ vs hr ok r => codeAny_mono (h A s Φ vs (hr.le hk) ok r) fun z xx e => by
    cases z with
    | error e => exact e
    | ok f =>
      cases f with
      | ret v => obtain ⟨d, σ', Φ', st, rd, q⟩ := e; exact ⟨d, σ', Φ', st, rd, hq _ _ q⟩
      | _ => exact e
noncomputable def CallSem (X : Cx) (n : Nat) (f : Str) (ds : List D) (σ : Sg) (Q : D → Sg → Prop) : Prop := ∀ a, X.mg f = some (.ref a) → CallA X n (.ref a) ds σ Q

inductive BOp where | add | sub | mul | fdiv | mod
inductive COp where | lt | le | gt | ge | eq | ne | is_ | isn | in_ | nin
inductive Bi where | len | sum | min2 | max2 | min1 | max1 | isint | isbool | islist | istuple | tuple1 | int1

inductive MV where
  | unb
  | val (d : D)
  | mt (ds : List D)
  | pin (v : Value) (d : D)

noncomputable def D.atom : D → Bool
  | .none | .bool _ | .int _ | .str _ => true
  | _ => false

mutual
noncomputable def D.py : D → PyData
  | .none => .none
  | .bool b => .bool b
  | .int i => .int i
  | .str x => .str x
  | .tup ds => .tuple (D.pys ds)
  | .lst ds => .list (D.pys ds)
  | .ref _ => .none
noncomputable def D.pys : List D → List PyData
  | [] => []
  | d :: ds => D.py d :: D.pys ds
end
noncomputable def D.ok : Nat → D → Bool
  | _, .none | _, .bool _ | _, .int _ => true
  | _, .str x => PyData.strOk x
  | n + 1, .tup ds => ds.all (D.ok n)
  | n + 1, .lst ds => ds.all (D.ok n)
  | _, _ => false
noncomputable def eqv (a b : D) : Bool := PyData.eqv a.py b.py

noncomputable def small (i : Int) : Prop := -(2 ^ 63) ≤ i ∧ i < 2 ^ 63

inductive BinR : BOp → D → D → D → Prop
  | add (i j : Int) : BinR .add (.int i) (.int j) (.int (i + j))
  | sub (i j : Int) : BinR .sub (.int i) (.int j) (.int (i - j))
  | mul (i j : Int) (h : small i ∨ small j) : BinR .mul (.int i) (.int j) (.int (i * j))
  | fdiv (i j : Int) (h0 : j ≠ 0) (h1 : small j) : BinR .fdiv (.int i) (.int j) (.int (i.fdiv j))
  | mod (i j : Int) (h0 : j ≠ 0) : BinR .mod (.int i) (.int j) (.int (i.fmod j))
noncomputable def D.onInt (x : D) (P : Int → Prop) : Prop := match x with | .int i => P i | _ => False
noncomputable def D.onBool (x : D) (P : Bool → Prop) : Prop := match x with | .bool i => P i | _ => False
noncomputable def D.onLst (x : D) (P : List D → Prop) : Prop := match x with | .lst i => P i | _ => False
noncomputable def D.onTup (x : D) (P : List D → Prop) : Prop := match x with | .tup i => P i | _ => False
noncomputable def D.onSeq (x : D) (P : List D → Prop) : Prop := match x with | .lst i => P i | .tup i => P i | _ => False
noncomputable def D.onAtom (x : D) (P : Prop) : Prop := match x with | .tup _ => False | .lst _ => False | .ref _ => False | _ => P
noncomputable def D.noRef (x : D) (P : Prop) : Prop := match x with | .ref _ => False | _ => P
noncomputable def MV.onVal (x : MV) (P : D → Prop) : Prop := match x with | .val d => P d | .pin _ d => P d | _ => False
noncomputable def MV.onMt (x : MV) (P : List D → Prop) : Prop := match x with | .mt d => P d | _ => False
theorem D.int_of {x : D} {P : Int → Prop} (h : x.onInt P) : ∃ i, x = .int i ∧ P i := by cases x <;> first | exact ⟨_, rfl, h⟩ | exact h.elim
theorem D.bool_of {x : D} {P : Bool → Prop} (h : x.onBool P) : ∃ i, x = .bool i ∧ P i := by cases x <;> first | exact ⟨_, rfl, h⟩ | exact h.elim
theorem D.lst_of {x : D} {P : List D → Prop} (h : x.onLst P) : ∃ i, x = .lst i ∧ P i := by cases x <;> first | exact ⟨_, rfl, h⟩ | exact h.elim
theorem D.tup_of {x : D} {P : List D → Prop} (h : x.onTup P) : ∃ i, x = .tup i ∧ P i := by cases x <;> first | exact ⟨_, rfl, h⟩ | exact h.elim
theorem D.seq_of {x : D} {P : List D → Prop} (h : x.onSeq P) : (∃ i, x = .lst i ∧ P i) ∨ ∃ i, x = .tup i ∧ P i := by cases x <;> first | exact .inl ⟨_, rfl, h⟩ | exact .inr ⟨_, rfl, h⟩ | exact h.elim
theorem D.atom_of {x : D} {P : Prop} (h : x.onAtom P) : x.atom = true ∧ P := by cases x <;> first | exact ⟨rfl, h⟩ | exact h.elim
theorem D.noRef_of {x : D} {P : Prop} (h : x.noRef P) : (∀ a, x ≠ .ref a) ∧ P := by cases x <;> first | exact ⟨fun xx e => (by cases e), h⟩ | exact (show False from h).elim
theorem MV.val_of {x : MV} {P : D → Prop} (h : x.onVal P) : ∃ d, (x = .val d ∨ ∃ v, x = .pin v d) ∧ P d := by cases x <;> first | exact ⟨_, .inl rfl, h⟩ | exact ⟨_, .inr ⟨_, rfl⟩, h⟩ | exact h.elim
theorem MV.mt_of {x : MV} {P : List D → Prop} (h : x.onMt P) : ∃ d, x = .mt d ∧ P d := by cases x <;> first | exact ⟨_, rfl, h⟩ | exact h.elim
noncomputable def binI (op : BOp) (i j : Int) (Q : D → Prop) : Prop := match op with
  | .add => Q (.int (i + j))
  | .sub => Q (.int (i - j))
  | .mul => (small i ∨ small j) ∧ Q (.int (i * j))
  | .fdiv => j ≠ 0 ∧ small j ∧ Q (.int (i.fdiv j))
  | .mod => j ≠ 0 ∧ Q (.int (i.fmod j))
noncomputable def binT (op : BOp) (x y : D) (Q : D → Prop) : Prop := x.onInt fun i => y.onInt fun j => binI op i j Q
theorem bin_of {op : BOp} {x y : D} {Q : D → Prop} (h : binT op x y Q) : ∃ r, BinR op x y r ∧ Q r := by
  obtain ⟨i, rfl, h'⟩ := D.int_of h
  obtain ⟨j, rfl, h⟩ := D.int_of h'
  clear h'
  cases op with
  | add => exact ⟨_, .add i j, h⟩
  | sub => exact ⟨_, .sub i j, h⟩
  | mul => exact ⟨_, .mul i j h.1, h.2⟩
  | fdiv => exact ⟨_, .fdiv i j h.1 h.2.1, h.2.2⟩
  | mod => exact ⟨_, .mod i j h.1, h.2⟩

noncomputable def D.isNone : D → Bool | .none => true | _ => false
noncomputable def D.isInt : D → Bool | .int _ => true | .bool _ => true | _ => false
noncomputable def D.isBool : D → Bool | .bool _ => true | _ => false
noncomputable def D.isLst : D → Bool | .lst _ => true | _ => false
noncomputable def D.isTup : D → Bool | .tup _ => true | _ => false

inductive CmpR : COp → D → D → Bool → Prop
  | lt (i j : Int) : CmpR .lt (.int i) (.int j) (decide (i < j))
  | le (i j : Int) : CmpR .le (.int i) (.int j) (decide (i ≤ j))
  | gt (i j : Int) : CmpR .gt (.int i) (.int j) (decide (j < i))
  | ge (i j : Int) : CmpR .ge (.int i) (.int j) (decide (j ≤ i))
  | eq (x y : D) (hx : x.ok 8 = true) (hy : y.ok 8 = true) : CmpR .eq x y (eqv x y)
  | ne (x y : D) (hx : x.ok 8 = true) (hy : y.ok 8 = true) : CmpR .ne x y (!eqv x y)
  | is_ (x : D) : CmpR .is_ x .none x.isNone
  | isn (x : D) : CmpR .isn x .none (!x.isNone)
  | in_ (x : D) (ds : List D) (hx : x.ok 8 = true) (hd : D.ok 9 (.lst ds) = true) : CmpR .in_ x (.lst ds) (ds.any fun y => eqv y x)
  | nin (x : D) (ds : List D) (hx : x.ok 8 = true) (hd : D.ok 9 (.lst ds) = true) : CmpR .nin x (.lst ds) (!ds.any fun y => eqv y x)
noncomputable def cmpT (op : COp) (x y : D) (Q : Bool → Prop) : Prop := match op with
  | .lt => x.onInt fun i => y.onInt fun j => Q (decide (i < j))
  | .le => x.onInt fun i => y.onInt fun j => Q (decide (i ≤ j))
  | .gt => x.onInt fun i => y.onInt fun j => Q (decide (j < i))
  | .ge => x.onInt fun i => y.onInt fun j => Q (decide (j ≤ i))
  | .eq => x.ok 8 = true ∧ y.ok 8 = true ∧ Q (eqv x y)
  | .ne => x.ok 8 = true ∧ y.ok 8 = true ∧ Q (!eqv x y)
  | .is_ => y = .none ∧ Q x.isNone
  | .isn => y = .none ∧ Q (!x.isNone)
  | .in_ => y.onLst fun ds => x.ok 8 = true ∧ D.ok 9 (.lst ds) = true ∧ Q (ds.any fun y => eqv y x)
  | .nin => y.onLst fun ds => x.ok 8 = true ∧ D.ok 9 (.lst ds) = true ∧ Q (!ds.any fun y => eqv y x)
theorem cmp_of {op : COp} {x y : D} {Q : Bool → Prop} (h : cmpT op x y Q) : ∃ r, CmpR op x y r ∧ Q r := by
  cases op with
  | lt => obtain ⟨i, rfl, h1⟩ := D.int_of h; obtain ⟨j, rfl, h2⟩ := D.int_of h1; exact ⟨_, .lt i j, h2⟩
  | le => obtain ⟨i, rfl, h1⟩ := D.int_of h; obtain ⟨j, rfl, h2⟩ := D.int_of h1; exact ⟨_, .le i j, h2⟩
  | gt => obtain ⟨i, rfl, h1⟩ := D.int_of h; obtain ⟨j, rfl, h2⟩ := D.int_of h1; exact ⟨_, .gt i j, h2⟩
  | ge => obtain ⟨i, rfl, h1⟩ := D.int_of h; obtain ⟨j, rfl, h2⟩ := D.int_of h1; exact ⟨_, .ge i j, h2⟩
  | eq => exact ⟨_, .eq x y h.1 h.2.1, h.2.2⟩
  | ne => exact ⟨_, .ne x y h.1 h.2.1, h.2.2⟩
  | is_ => obtain ⟨rfl, h1⟩ := h; exact ⟨_, .is_ x, h1⟩
  | isn => obtain ⟨rfl, h1⟩ := h; exact ⟨_, .isn x, h1⟩
  | in_ => obtain ⟨ds, rfl, h1⟩ := D.lst_of h; exact ⟨_, .in_ x ds h1.1 h1.2.1, h1.2.2⟩
  | nin => obtain ⟨ds, rfl, h1⟩ := D.lst_of h; exact ⟨_, .nin x ds h1.1 h1.2.1, h1.2.2⟩

inductive IdxR : D → D → D → Prop
  | lst (ds : List D) (k : Int) (d : D) (h0 : 0 ≤ k) (h1 : k < 2 ^ 63) (hd : ds[k.toNat]? = some d) : IdxR (.lst ds) (.int k) d
  | tup (ds : List D) (k : Int) (d : D) (h0 : 0 ≤ k) (h1 : k < 2 ^ 63) (hd : ds[k.toNat]? = some d) : IdxR (.tup ds) (.int k) d
noncomputable def idxT (x y : D) (Q : D → Prop) : Prop := y.onInt fun k => x.onSeq fun ds => 0 ≤ k ∧ k < 2 ^ 63 ∧ ∃ d, ds[k.toNat]? = some d ∧ Q d
theorem idx_of {x y : D} {Q : D → Prop} (h : idxT x y Q) : ∃ r, IdxR x y r ∧ Q r := by
  obtain ⟨k, rfl, h1⟩ := D.int_of h
  rcases D.seq_of h1 with ⟨ds, rfl, h0, h1, d, hd, q⟩ | ⟨ds, rfl, h0, h1, d, hd, q⟩
  · exact ⟨d, .lst ds k d h0 h1 hd, q⟩
  · exact ⟨d, .tup ds k d h0 h1 hd, q⟩

inductive BiR : Bi → List D → D → Prop
  | lenL (ds : List D) (h : ds.length ≤ 2 ^ 20) : BiR .len [.lst ds] (.int ds.length)
  | lenT (ds : List D) (h : ds.length ≤ 2 ^ 20) : BiR .len [.tup ds] (.int ds.length)
  | sum (ns : List Int) : BiR .sum [.lst (ns.map D.int)] (.int ns.sum)
  | max1 (ns : List Int) (m : Int) (hm : m ∈ ns) (h : ∀ k ∈ ns, k ≤ m) : BiR .max1 [.lst (ns.map D.int)] (.int m)
  | min1 (ns : List Int) (m : Int) (hm : m ∈ ns) (h : ∀ k ∈ ns, m ≤ k) : BiR .min1 [.lst (ns.map D.int)] (.int m)
  | min2 (a b : Int) : BiR .min2 [.int a, .int b] (.int (if b < a then b else a))
  | max2 (a b : Int) : BiR .max2 [.int a, .int b] (.int (if b > a then b else a))
  | isint (d : D) (h : ∀ a, d ≠ .ref a) : BiR .isint [d] (.bool d.isInt)
  | isbool (d : D) (h : ∀ a, d ≠ .ref a) : BiR .isbool [d] (.bool d.isBool)
  | islist (d : D) (h : ∀ a, d ≠ .ref a) : BiR .islist [d] (.bool d.isLst)
  | istuple (d : D) (h : ∀ a, d ≠ .ref a) : BiR .istuple [d] (.bool d.isTup)
  | tuple1 (ds : List D) (h : ds.length ≤ 2 ^ 20) : BiR .tuple1 [.lst ds] (.tup ds)
noncomputable def one1 (ds : List D) (P : D → Prop) : Prop := match ds with | [x] => P x | _ => False
noncomputable def two2 (ds : List D) (P : D → D → Prop) : Prop := match ds with | [x, y] => P x y | _ => False
theorem one_of {ds : List D} {P : D → Prop} (h : one1 ds P) : ∃ x, ds = [x] ∧ P x := by
  match ds, h with
  | [x], h => exact ⟨x, rfl, h⟩
theorem two_of {ds : List D} {P : D → D → Prop} (h : two2 ds P) : ∃ x y, ds = [x, y] ∧ P x y := by
  match ds, h with
  | [x, y], h => exact ⟨x, y, rfl, h⟩
noncomputable def biT (b : Bi) (ds : List D) (Q : D → Prop) : Prop := match b with
  | .len => one1 ds fun x => x.onSeq fun l => l.length ≤ 2 ^ 20 ∧ Q (.int l.length)
  | .sum => ∃ ns : List Int, ds = [.lst (ns.map D.int)] ∧ Q (.int ns.sum)
  | .max1 => ∃ (ns : List Int) (m : Int), ds = [.lst (ns.map D.int)] ∧ m ∈ ns ∧ (∀ k ∈ ns, k ≤ m) ∧ Q (.int m)
  | .min1 => ∃ (ns : List Int) (m : Int), ds = [.lst (ns.map D.int)] ∧ m ∈ ns ∧ (∀ k ∈ ns, m ≤ k) ∧ Q (.int m)
  | .min2 => two2 ds fun x y => x.onInt fun a => y.onInt fun b => Q (.int (min a b))
  | .max2 => two2 ds fun x y => x.onInt fun a => y.onInt fun b => Q (.int (max a b))
  | .isint => one1 ds fun x => x.noRef (Q (.bool x.isInt))
  | .isbool => one1 ds fun x => x.noRef (Q (.bool x.isBool))
  | .islist => one1 ds fun x => x.noRef (Q (.bool x.isLst))
  | .istuple => one1 ds fun x => x.noRef (Q (.bool x.isTup))
  | .tuple1 => one1 ds fun x => x.onLst fun l => l.length ≤ 2 ^ 20 ∧ Q (.tup l)
  | .int1 => False
theorem bi_of {b : Bi} {ds : List D} {Q : D → Prop} (h : biT b ds Q) : ∃ r, BiR b ds r ∧ Q r := by
  cases b with
  | len =>
    obtain ⟨x, rfl, h1⟩ := one_of h
    rcases D.seq_of h1 with ⟨l, rfl, h2, h3⟩ | ⟨l, rfl, h2, h3⟩
    · exact ⟨_, .lenL l h2, h3⟩
    · exact ⟨_, .lenT l h2, h3⟩
  | sum => obtain ⟨ns, rfl, h1⟩ := h; exact ⟨_, .sum ns, h1⟩
  | max1 => obtain ⟨ns, m, rfl, h1, h2, h3⟩ := h; exact ⟨_, .max1 ns m h1 h2, h3⟩
  | min1 => obtain ⟨ns, m, rfl, h1, h2, h3⟩ := h; exact ⟨_, .min1 ns m h1 h2, h3⟩
  | min2 =>
    obtain ⟨x, y, rfl, h1⟩ := two_of h
    obtain ⟨i, rfl, h2⟩ := D.int_of h1
    obtain ⟨j, rfl, h3⟩ := D.int_of h2
    have e : (if j < i then j else i) = min i j := by simp only [Int.min_def]; split <;> split <;> omega
    exact ⟨_, .min2 i j, by rw [e]; exact h3⟩
  | max2 =>
    obtain ⟨x, y, rfl, h1⟩ := two_of h
    obtain ⟨i, rfl, h2⟩ := D.int_of h1
    obtain ⟨j, rfl, h3⟩ := D.int_of h2
    have e : (if j > i then j else i) = max i j := by simp only [Int.max_def]; split <;> split <;> omega
    exact ⟨_, .max2 i j, by rw [e]; exact h3⟩
  | isint => obtain ⟨x, rfl, h0⟩ := one_of h; obtain ⟨h1, h2⟩ := D.noRef_of h0; exact ⟨_, .isint x h1, h2⟩
  | isbool => obtain ⟨x, rfl, h0⟩ := one_of h; obtain ⟨h1, h2⟩ := D.noRef_of h0; exact ⟨_, .isbool x h1, h2⟩
  | islist => obtain ⟨x, rfl, h0⟩ := one_of h; obtain ⟨h1, h2⟩ := D.noRef_of h0; exact ⟨_, .islist x h1, h2⟩
  | istuple => obtain ⟨x, rfl, h0⟩ := one_of h; obtain ⟨h1, h2⟩ := D.noRef_of h0; exact ⟨_, .istuple x h1, h2⟩
  | tuple1 => obtain ⟨x, rfl, h0⟩ := one_of h; obtain ⟨l, rfl, h1, h2⟩ := D.lst_of h0; exact ⟨_, .tuple1 l h1, h2⟩
  | int1 => exact h.elim

noncomputable def frzAll (ρ : List MV) : List Nat → List MV
  | [] => ρ
  | i :: is => frzAll (match ρ.getD i .unb with | .mt ds => ρ.set i (.val (.lst ds)) | _ => ρ) is

noncomputable def setAll (ρ : List MV) : List Nat → List D → List MV
  | i :: is, d :: ds => setAll (ρ.set i (.val d)) is ds
  | _, _ => ρ

noncomputable def empS : Sg := fun xx => none

noncomputable def condT (b : D) (x y : Prop) : Prop := b.onBool fun c => if c = true then x else y
noncomputable def notT (x : D) (Q : Bool → Prop) : Prop := x.onBool fun b => Q (!b)

noncomputable abbrev E := Cx → Nat → List MV → Sg → (D → Sg → Prop) → Prop
noncomputable abbrev L := Cx → Nat → List MV → Sg → (List D → Sg → Prop) → Prop
noncomputable abbrev It := Cx → Nat → Nat → List MV → Sg → (List (List D) → Sg → Prop) → Prop
inductive Fl where
  | next
  | ret (d : D)
noncomputable abbrev S := Cx → Nat → List MV → Sg → (Fl → List MV → Sg → Prop) → Prop
noncomputable abbrev mEval (X : Cx) (n : Nat) (e : E) := e X n
noncomputable abbrev mL (X : Cx) (n : Nat) (l : L) := l X n
noncomputable abbrev mIt (X : Cx) (n : Nat) (it : It) := it X n
noncomputable abbrev mExec (X : Cx) (n : Nat) (s : S) := s X n
noncomputable def mEvals (X : Cx) (n : Nat) : List E → List MV → Sg → (List D → Sg → Prop) → Prop
  | [], _, σ, Q => Q [] σ
  | e :: es, ρ, σ, Q => mEval X n e ρ σ fun d σ => mEvals X n es ρ σ fun ds σ => Q (d :: ds) σ
noncomputable def mExecs (X : Cx) (n : Nat) : List S → List MV → Sg → (Fl → List MV → Sg → Prop) → Prop
  | [], ρ, σ, Q => Q .next ρ σ
  | s :: ss, ρ, σ, Q => mExec X n s ρ σ fun fl ρ' σ' => match fl with
      | .next => mExecs X n ss ρ' σ' Q
      | .ret d => Q (.ret d) ρ' σ'
noncomputable def mCond (X : Cx) (n : Nat) : Option E → List MV → Sg → (D → Sg → Prop) → Prop
  | none, _, σ, Q => Q (.bool true) σ
  | some e, ρ, σ, Q => mEval X n e ρ σ Q
noncomputable def E.cst (d : D) : E := fun xx xx xx σ Q => Q d σ
noncomputable def E.var (i : Nat) : E := fun xx xx ρ σ Q => (ρ.getD i .unb).onVal fun d => Q d σ
noncomputable def E.bin (op : BOp) (a b : E) : E := fun X n ρ σ Q => a X n ρ σ fun x σ => b X n ρ σ fun y σ => binT op x y fun r => Q r σ
noncomputable def E.neg (a : E) : E := fun X n ρ σ Q => a X n ρ σ fun x σ => x.onInt fun i => Q (.int (-i)) σ
noncomputable def E.cmp (op : COp) (a b : E) : E := fun X n ρ σ Q => a X n ρ σ fun x σ => b X n ρ σ fun y σ => cmpT op x y fun r => Q (.bool r) σ
noncomputable def E.cmp2 (o1 o2 : COp) (a b c : E) : E := fun X n ρ σ Q => a X n ρ σ fun x σ => b X n ρ σ fun y σ => cmpT o1 x y fun r => if r = true then c X n ρ σ fun z σ => cmpT o2 y z fun r' => Q (.bool r') σ else Q (.bool false) σ
noncomputable def E.and_ (a b : E) : E := fun X n ρ σ Q => a X n ρ σ fun x σ => condT x (b X n ρ σ Q) (Q (.bool false) σ)
noncomputable def E.or_ (a b : E) : E := fun X n ρ σ Q => a X n ρ σ fun x σ => condT x (Q (.bool true) σ) (b X n ρ σ Q)
noncomputable def E.not_ (a : E) : E := fun X n ρ σ Q => a X n ρ σ fun x σ => notT x fun b => Q (.bool b) σ
noncomputable def E.lst (l : L) : E := fun X n ρ σ Q => l X n ρ σ fun ds σ => Q (.lst ds) σ
noncomputable def E.tupE (es : List E) : E := fun X n ρ σ Q => mEvals X n es ρ σ fun ds σ => ds.length ≤ 2 ^ 20 ∧ Q (.tup ds) σ
noncomputable def E.idx (a i : E) : E := fun X n ρ σ Q => a X n ρ σ fun x σ => i X n ρ σ fun y σ => idxT x y fun r => Q r σ
noncomputable def E.call (f : Str) (args : List E) : E := fun X n ρ σ Q => mEvals X n args ρ σ fun ds σ => CallSem X n f ds σ Q
noncomputable def E.bi (b : Bi) (args : List E) : E := fun X n ρ σ Q => mEvals X n args ρ σ fun ds σ => biT b ds fun r => Q r σ
noncomputable def E.borrow (xs : List Nat) (e : E) : E := fun X n ρ σ Q => e X n (frzAll ρ xs) empS fun d xx => d.onAtom (Q d σ)

noncomputable def compT (cond elt : List MV → Sg → (D → Sg → Prop) → Prop) (ρ : List MV) (is : List Nat) : List (List D) → Sg → (List D → Sg → Prop) → Prop
  | [], σ, Q => Q [] σ
  | r :: rs, σ, Q => cond (setAll ρ is r) σ fun c σ => condT c
      (elt (setAll ρ is r) σ fun d σ => compT cond elt ρ is rs σ fun ds σ => Q (d :: ds) σ)
      (compT cond elt ρ is rs σ Q)

noncomputable def L.disp (es : List E) : L := fun X n ρ σ Q => mEvals X n es ρ σ fun ds σ => ds.length ≤ 2 ^ 20 ∧ Q ds σ
noncomputable def L.ofSeq (it : It) : L := fun X n ρ σ Q => it X n 1 ρ σ fun rows σ => rows.length ≤ 2 ^ 20 ∧ Q (rows.map fun r => r.headD .none) σ
noncomputable def L.rep (e m : E) : L := fun X n ρ σ Q => e X n ρ σ fun d σ => m X n ρ σ fun k σ => k.onInt fun i => 0 ≤ i ∧ i ≤ 2 ^ 20 ∧ Q (List.replicate i.toNat d) σ
noncomputable def L.upto (a h : E) : L := fun X n ρ σ Q => a X n ρ σ fun x σ => h X n ρ σ fun y σ => x.onLst fun ds => y.onInt fun k => 0 ≤ k ∧ ds.length ≤ 2 ^ 20 ∧ Q (ds.take k.toNat) σ
noncomputable def L.from_ (a h : E) : L := fun X n ρ σ Q => a X n ρ σ fun x σ => h X n ρ σ fun y σ => x.onLst fun ds => y.onInt fun k => 0 ≤ k ∧ ds.length ≤ 2 ^ 20 ∧ Q (ds.drop k.toNat) σ
noncomputable def L.comp (elt : E) (is : List Nat) (it : It) (cond : Option E) : L := fun X n ρ σ Q => it X n is.length ρ σ fun rows σ => rows.length ≤ 2 ^ 20 ∧ compT (mCond X n cond) (elt X n) ρ is rows σ Q
noncomputable def L.cat (a b : E) : L := fun X n ρ σ Q => a X n ρ σ fun x σ => b X n ρ σ fun y σ => x.onLst fun ds => y.onLst fun es => (ds ++ es).length ≤ 2 ^ 20 ∧ Q (ds ++ es) σ
noncomputable def L.borrow (xs : List Nat) (l : L) : L := fun X n ρ σ Q => l X n (frzAll ρ xs) empS fun ds xx => (ds.all D.atom) = true ∧ Q ds σ

inductive SeqR (k : Nat) : D → List (List D) → Prop
  | one (ds : List D) (h : k = 1) : SeqR k (.lst ds) (ds.map fun d => [d])
  | tup (ds : List D) (h : k = 1) : SeqR k (.tup ds) (ds.map fun d => [d])
  | many (rows : List (List D)) (h : k ≠ 1) (hr : ∀ r ∈ rows, r.length = k) : SeqR k (.lst (rows.map D.tup)) rows
noncomputable def seqT (k : Nat) (x : D) (P : List (List D) → Prop) : Prop := match k with
  | 1 => x.onSeq fun ds => P (ds.map fun d => [d])
  | k => k ≠ 1 ∧ ∃ rows : List (List D), x = .lst (rows.map D.tup) ∧ (∀ r ∈ rows, r.length = k) ∧ P rows
theorem seqT_of {k : Nat} {x : D} {P : List (List D) → Prop} (h : seqT k x P) : ∃ rows, SeqR k x rows ∧ P rows := by
  by_cases hk : k = 1
  · subst hk
    rcases D.seq_of (h : x.onSeq _) with ⟨ds, rfl, h1⟩ | ⟨ds, rfl, h1⟩
    · exact ⟨_, .one ds rfl, h1⟩
    · exact ⟨_, .tup ds rfl, h1⟩
  · unfold seqT at h
    split at h
    · exact absurd rfl hk
    · obtain ⟨_, rows, rfl, hr, h1⟩ := h
      exact ⟨rows, .many rows hk hr, h1⟩
noncomputable def It.seq (e : E) : It := fun X n k ρ σ Q => e X n ρ σ fun x σ => seqT k x fun rows => Q rows σ
noncomputable def It.range (e : E) : It := fun X n k ρ σ Q => e X n ρ σ fun x σ => x.onInt fun i => k = 1 ∧ -(2 ^ 62) ≤ i ∧ i < 2 ^ 62 ∧ Q ((List.range i.toNat).map fun (j : Nat) => [D.int (j : Int)]) σ
noncomputable def It.zip (a b : E) : It := fun X n k ρ σ Q => a X n ρ σ fun x σ => b X n ρ σ fun y σ => x.onLst fun ds => y.onLst fun es => k = 2 ∧ Q ((ds.zip es).map fun p => [p.1, p.2]) σ
noncomputable def It.enum (e : E) : It := fun X n k ρ σ Q => e X n ρ σ fun x σ => x.onLst fun ds => k = 2 ∧ Q (ds.mapIdx fun (i : Nat) d => [D.int (i : Int), d]) σ

noncomputable def forT (bd : List MV → Sg → (Fl → List MV → Sg → Prop) → Prop) (is : List Nat) : List (List D) → List MV → Sg → (Fl → List MV → Sg → Prop) → Prop
  | [], ρ, σ, Q => Q .next ρ σ
  | r :: rs, ρ, σ, Q => ∃ P : Fl → List MV → Sg → Prop, bd (setAll ρ is r) σ P ∧ (∀ d ρ' σ', P (.ret d) ρ' σ' → Q (.ret d) ρ' σ') ∧ ∀ ρ' σ', P .next ρ' σ' → forT bd is rs ρ' σ' Q

noncomputable def S.asg (i : Nat) (e : E) : S := fun X n ρ σ Q => e X n ρ σ fun d σ => Q .next (ρ.set i (.val d)) σ
noncomputable def S.asgM (i : Nat) (l : L) : S := fun X n ρ σ Q => l X n ρ σ fun ds σ => Q .next (ρ.set i (.mt ds)) σ
noncomputable def S.unp (is : List Nat) (e : E) : S := fun X n ρ σ Q => e X n ρ σ fun d σ => d.onTup fun ds => ds.length = is.length ∧ Q .next (setAll ρ is ds) σ
noncomputable def S.app (i : Nat) (e : E) : S := fun X n ρ σ Q => (ρ.getD i .unb).onMt fun ds => ds.length ≤ 2 ^ 20 ∧ e X n ρ σ fun d σ => Q .next (ρ.set i (.mt (ds ++ [d]))) σ
noncomputable def S.appPop (i j : Nat) (e : E) : S := fun X n ρ σ Q => i ≠ j ∧ (ρ.getD i .unb).onMt fun ds => (ρ.getD j .unb).onMt fun es => ds.length ≤ 2 ^ 20 ∧ es.length ≤ 2 ^ 20 ∧ e X n ρ σ fun k σ =>
      k.onInt fun t => ∃ d, 0 ≤ t ∧ es[t.toNat]? = some d ∧ Q .next ((ρ.set j (.mt (es.eraseIdx t.toNat))).set i (.mt (ds ++ [d]))) σ
noncomputable def S.setI (i : Nat) (k e : E) : S := fun X n ρ σ Q => (ρ.getD i .unb).onMt fun ds => ds.length ≤ 2 ^ 20 ∧ e X n ρ σ fun d σ => k X n ρ σ fun t σ =>
      t.onInt fun j => 0 ≤ j ∧ j < ds.length ∧ Q .next (ρ.set i (.mt (ds.set j.toNat d))) σ
noncomputable def S.iff (c : E) (t f : List S) : S := fun X n ρ σ Q => c X n ρ σ fun b σ => condT b (mExecs X n t ρ σ Q) (mExecs X n f ρ σ Q)
noncomputable def S.for_ (is : List Nat) (it : It) (body : List S) : S := fun X n ρ σ Q => it X n is.length ρ σ fun rows σ => forT (mExecs X n body) is rows ρ σ Q
noncomputable def S.while_ (c : E) (body : List S) : S := fun X n ρ σ Q => ∃ I : Nat → List MV → Sg → Prop, (∃ k, I k ρ σ) ∧ ∀ k ρ σ, I k ρ σ →
      c X n ρ σ fun b σ => condT b (mExecs X n body ρ σ fun fl ρ' σ' => match fl with
        | .next => ∃ j, j < k ∧ I j ρ' σ'
        | .ret d => Q (.ret d) ρ' σ') (Q .next ρ σ)
noncomputable def S.ret (e : E) : S := fun X n ρ σ Q => e X n ρ σ fun d σ => Q (.ret d) ρ σ
noncomputable def S.expr (e : E) : S := fun X n ρ σ Q => e X n ρ σ fun xx σ => Q .next ρ σ
noncomputable def S.pass : S := fun xx xx ρ σ Q => Q .next ρ σ
noncomputable def S.freeze (i : Nat) : S := fun xx xx ρ σ Q => (ρ.getD i .unb).onMt fun ds => Q .next (ρ.set i (.val (.lst ds))) σ
noncomputable def look (env : Env) (m cm : Str → Option Value) (x : Str) : Option Value := match env.kindOf x with
  | some .local => m x
  | some .cell => cm x
  | some .free => cm x
  | _ => none
noncomputable def acc (env : Env) (x : Str) : Prop := env.kindOf x = some .local ∨ env.kindOf x = some .cell ∨ env.kindOf x = some .free

noncomputable def VRel (Φ : Fz) (h : Heap) (ov : Option Value) (μi : Option Addr) : MV → Prop
  | .unb => μi = none
  | .val d => μi = none ∧ ∃ v, ov = some v ∧ Rd Φ v d
  | .pin v d => μi = none ∧ ov = some v ∧ Rd Φ v d
  | .mt ds => ∃ a vs, μi = some a ∧ ov = some (.ref a) ∧ h.PlainList a vs ∧ RdAll Φ vs.toList ds

noncomputable def Own (env : Env) (μ : Nat → Option Addr) (a : Addr) : Prop := a = env.locals ∨ (∃ n, (n, a) ∈ env.cells) ∨ ∃ i, μ i = some a

structure FrameX (g : Heap) (env : Env) (names : List Str) (ρ : List MV) (σ : Sg) (Φ : Fz) (h : Heap) (m cm : Str → Option Value) (μ : Nat → Option Addr) : Prop where
  nd : names.Nodup
  len : ρ.length = names.length
  ns : h.Ns env.locals m
  cell : ∀ n c, env.cells.lookup n = some c → h.IsCell c (cm n)
  cellsIn : ∀ n c, (n, c) ∈ env.cells → ∃ o, h.get? c = some o
  hasCell : ∀ x, env.kindOf x = some .cell ∨ env.kindOf x = some .free → (env.cells.lookup x).isSome = true
  apart : env.cells.Pairwise fun x y => x.2 ≠ y.2
  offc : ∀ n c, (n, c) ∈ env.cells → c ≠ env.locals
  priv : ∀ a, Own env μ a → σ a = none ∧ Φ a = none ∧ g.get? a = none
  vars : ∀ i x, names[i]? = some x → acc env x → VRel Φ h (look env m cm x) (μ i) (ρ.getD i .unb)
  inj : ∀ i j a, μ i = some a → μ j = some a → i = j
  offm : ∀ i a, μ i = some a → a ≠ env.locals ∧ ∀ n, (n, a) ∉ env.cells
  live : ∀ i a, μ i = some a → ∃ o, h.get? a = some o

noncomputable def Frame (g : Heap) (env : Env) (names : List Str) (ρ : List MV) (σ : Sg) (Φ : Fz) (h : Heap) : Prop := ∃ m cm μ, FrameX g env names ρ σ Φ h m cm μ

structure EnvOk (env : Env) : Prop where
  kind : env.scope.kind = .function
  glob : env.globals = mainGlobals
  blt : env.builtins = builtinsNs

noncomputable def bNames : List (Str × Value) := [("len", .builtin "len"), ("sum", .builtin "sum"), ("min", .builtin "min"), ("max", .builtin "max"), ("sorted", .builtin "sorted"), ("isinstance", .builtin "isinstance"),
  ("range", .type "range"), ("list", .type "list"), ("tuple", .type "tuple"), ("int", .type "int"), ("bool", .type "bool"), ("zip", .type "zip"), ("enumerate", .type "enumerate")]

structure Gnd (X : Cx) : Prop where
  gl : X.g.Ns mainGlobals X.mg
  bl : X.g.Ns builtinsNs X.mb
  lim : X.g.NoLimit
  blt : ∀ p ∈ bNames, X.mg p.1 = none ∧ X.mb p.1 = some p.2

theorem VRel.mono {Φ Φ' : Fz} {h h' : Heap} {ov : Option Value} {μi : Option Addr} {mv : MV} (hl : Fz.le Φ Φ') (hh : ∀ a o, μi = some a → h.get? a = some o → h'.get? a = some o) (x : VRel Φ h ov μi mv) : VRel Φ' h' ov μi mv := by
  cases mv with
  | unb => exact x
  | val d => obtain ⟨h1, v, h2, h3⟩ := x; exact ⟨h1, v, h2, h3.mono hl⟩
  | pin v d => obtain ⟨h1, h2, h3⟩ := x; exact ⟨h1, h2, h3.mono hl⟩
  | mt ds => obtain ⟨a, vs, h1, h2, h3, h4⟩ := x; exact ⟨a, vs, h1, h2, h3.at fun o e => hh a o h1 e, h4.mono hl⟩

theorem FrameX.step {X : Cx} {env : Env} {names : List Str} {ρ : List MV} {σ σ' : Sg} {Φ Φ' : Fz} {s s' : Shared} {m cm : Str → Option Value} {μ : Nat → Option Addr}
    (F : FrameX X.g env names ρ σ Φ s.heap m cm μ) (x : Step X.g s s' Φ Φ' σ σ') : FrameX X.g env names ρ σ' Φ' s'.heap m cm μ := by
  have own : ∀ a o, Own env μ a → s.heap.get? a = some o → s'.heap.get? a = some o := fun a o h e => x.keep a o e (F.priv a h).1
  have hin : ∀ a, Own env μ a → ∃ o, s.heap.get? a = some o := fun a h => by
    rcases h with h | ⟨n, h⟩ | ⟨i, h⟩
    · subst h; obtain ⟨o, _, _, ho, _⟩ := F.ns; exact ⟨o, ho⟩
    · exact F.cellsIn n a h
    · exact F.live i a h
  exact {
    nd := F.nd
    len := F.len
    ns := F.ns.at' fun o e => own _ o (.inl rfl) e
    cell := fun n c hc => let ⟨o, ho, hd⟩ := F.cell n c hc; ⟨o, own c o (.inr (.inl ⟨n, mem_of_lookup hc⟩)) ho, hd⟩
    cellsIn := fun n c hc => let ⟨o, ho⟩ := F.cellsIn n c hc; ⟨o, own c o (.inr (.inl ⟨n, hc⟩)) ho⟩
    hasCell := F.hasCell
    apart := F.apart
    offc := F.offc
    priv := fun a h => let ⟨o, ho⟩ := hin a h; let p := F.priv a h; ⟨x.outS ho p.1, x.outF ho p.1 p.2.1, p.2.2⟩
    vars := fun i n hn ha => (F.vars i n hn ha).mono x.mono fun a o e ho => own a o (.inr (.inr ⟨i, e⟩)) ho
    inj := F.inj
    offm := F.offm
    live := fun i a e => let ⟨o, ho⟩ := F.live i a e; ⟨o, own a o (.inr (.inr ⟨i, e⟩)) ho⟩ }

theorem Frame.step {X : Cx} {env : Env} {names : List Str} {ρ : List MV} {σ σ' : Sg} {Φ Φ' : Fz} {s s' : Shared}
    (F : Frame X.g env names ρ σ Φ s.heap) (x : Step X.g s s' Φ Φ' σ σ') : Frame X.g env names ρ σ' Φ' s'.heap :=
  let ⟨m, cm, μ, f⟩ := F; ⟨m, cm, μ, f.step x⟩

noncomputable def SE (X : Cx) (n : Nat) (sc : Scope) (names : List Str) (x : Expr) (e : E) : Prop :=
  ∀ env A s Φ ρ σ Q, env.scope = sc → EnvOk env → Room X n A → Ok X.g σ Φ s.heap → Frame X.g env names ρ σ Φ s.heap → mEval X n e ρ σ Q →
    wpAny (model X.prog X.w) A (eval x env) (Ev X s Φ σ Q) No s
noncomputable def ST (X : Cx) (n : Nat) (sc : Scope) (names : List Str) (x : Expr) (e : E) : Prop :=
  ∀ env A s Φ ρ σ (Q : D → Sg → Prop) (P : Bool → Sg → Prop), env.scope = sc → EnvOk env → Room X n A → Ok X.g σ Φ s.heap → Frame X.g env names ρ σ Φ s.heap → (∀ d σ, Q d σ → ∃ c, d = .bool c ∧ P c σ) → mEval X n e ρ σ Q →
    wpAny (model X.prog X.w) A (isTrue x env (eval x env)) (fun b s' => ∃ σ' Φ', Step X.g s s' Φ Φ' σ σ' ∧ P b σ') No s
noncomputable def SEs (X : Cx) (n : Nat) (sc : Scope) (names : List Str) (xs : List Expr) (es : List E) : Prop :=
  ∀ env A s Φ ρ σ Q pos, env.scope = sc → EnvOk env → Room X n A → Ok X.g σ Φ s.heap → Frame X.g env names ρ σ Φ s.heap → mEvals X n es ρ σ Q →
    wpAny (model X.prog X.w) A (spliced (backTo pos (starEach xs env))) (Evs X s Φ σ Q) No s
noncomputable def SL (X : Cx) (n : Nat) (sc : Scope) (names : List Str) (x : Expr) (l : L) : Prop :=
  ∀ env A s Φ ρ σ Q, env.scope = sc → EnvOk env → Room X n A → Ok X.g σ Φ s.heap → Frame X.g env names ρ σ Φ s.heap → mL X n l ρ σ Q →
    wpAny (model X.prog X.w) A (eval x env) (Evl X s Φ σ Q) No s

section
variable {X : Cx} {n : Nat} {sc : Scope} {names : List Str}

theorem SE_none {k : Nat} {pos : Pos} : SE X n sc names (.Constant .none k pos) (.cst .none) := fun xx xx xx xx xx xx xx xx xx xx ok xx h =>
  PyProof.Rows.Constant_none ⟨_, _, _, Step.refl ok, .none, h⟩
theorem SE_bool {b : Bool} {k : Nat} {pos : Pos} : SE X n sc names (.Constant (.bool b) k pos) (.cst (.bool b)) := fun xx xx xx xx xx xx xx xx xx xx ok xx h =>
  PyProof.Rows.Constant_bool ⟨_, _, _, Step.refl ok, .bool b, h⟩
theorem SE_int {i : Int} {k : Nat} {pos : Pos} : SE X n sc names (.Constant (.int i) k pos) (.cst (.int i)) := fun xx xx xx xx xx xx xx xx xx xx ok xx h =>
  wpAny_Constant_int ⟨_, _, _, Step.tok ok _, .int i _, h⟩
theorem SE_str {x : Str} {k : Nat} {pos : Pos} : SE X n sc names (.Constant (.str x) k pos) (.cst (.str x)) := fun xx xx xx xx xx xx xx xx xx xx ok xx h =>
  Calls.Constant_str ⟨_, _, _, Step.tok ok _, .str x _, h⟩

theorem Env.kindOf_sc {env : Env} (h : env.scope = sc) (x : Str) : env.kindOf x = sc.names.lookup x := by rw [← h]; rfl

theorem load_var {env : Env} {A : Around} {s : Shared} {m cm : Str → Option Value} {μ : Nat → Option Addr} {ρ : List MV} {σ : Sg} {Φ : Fz} {x : Str} {pos : Pos} {v : Value} {Q : Value → Shared → Prop}
    (eo : EnvOk env) (F : FrameX X.g env names ρ σ Φ s.heap m cm μ) (ha : acc env x) (hv : look env m cm x = some v) (hd : (x == ("__debug__" : Str)) = false) (hcd : (x == ("__classdict__" : Str)) = false)
    (h : Q v s) : wpAny (model X.prog X.w) A (eval (.Name x pos) env) Q No s := by
  refine wpAny_Name ?_ hd
  rcases ha with ha | ha | ha
  · simp only [look, ha] at hv
    exact wpAny_loadName_local eo.kind ha F.ns hv h
  · simp only [look, ha] at hv
    obtain ⟨c, hc⟩ := Option.isSome_iff_exists.mp (F.hasCell x (.inl ha))
    exact wpAny_loadName_cell eo.kind ha hc (hv ▸ F.cell x c hc) h
  · simp only [look, ha] at hv
    obtain ⟨c, hc⟩ := Option.isSome_iff_exists.mp (F.hasCell x (.inr ha))
    exact wpAny_loadName_free eo.kind ha hc (hv ▸ F.cell x c hc) h hcd

noncomputable def accS (sc : Scope) (x : Str) : Bool := match sc.names.lookup x with
  | some .local => true
  | some .cell => true
  | some .free => true
  | _ => false
theorem acc_of {env : Env} (he : env.scope = sc) {x : Str} (h : accS sc x = true) : acc env x := by
  unfold acc
  rw [Env.kindOf_sc he]
  unfold accS at h
  split at h
  · exact .inl (by assumption)
  · exact .inr (.inl (by assumption))
  · exact .inr (.inr (by assumption))
  · cases h
noncomputable def plainName (x : Str) : Bool := !(x == ("__debug__" : Str)) && !(x == ("__classdict__" : Str))

theorem SE_var {i : Nat} {x : Str} {pos : Pos} (hi : names[i]? = some x) (ha : accS sc x = true) (hp : plainName x = true) : SE X n sc names (.Name x pos) (.var i) := by
  intro env A s Φ ρ σ Q he eo _ ok F h
  obtain ⟨m, cm, μ, F⟩ := F
  have hv := F.vars i x hi (acc_of he ha)
  simp only [plainName, Bool.and_eq_true, Bool.not_eq_true'] at hp
  obtain ⟨d, e, h⟩ := MV.val_of h
  have hv : ∃ v, look env m cm x = some v ∧ Rd Φ v d := by
    rcases e with e | ⟨v, e⟩ <;> rw [e] at hv
    · exact hv.2
    · exact ⟨v, hv.2⟩
  obtain ⟨v, h1, h2⟩ := hv
  exact load_var eo F (acc_of he ha) h1 hp.1 hp.2 ⟨d, σ, Φ, Step.refl ok, h2, h⟩

theorem SEs_nil : SEs X n sc names [] [] := fun xx xx xx xx xx xx xx xx xx xx xx ok xx h => Calls.spliced_nil ⟨_, _, _, Step.refl ok, .nil, h⟩

noncomputable def notStar : Expr → Bool
  | .Starred .. => false
  | _ => true
theorem starEach_cons {x : Expr} {xs : List Expr} {env : Env} (h : notStar x = true) : starEach (x :: xs) env = (false, eval x env) :: starEach xs env := by
  cases x <;> first | rfl | cases h
theorem SEs_cons {x : Expr} {xs : List Expr} {e : E} {es : List E} (hx : SE X n sc names x e) (hxs : SEs X n sc names xs es) (hs : notStar x = true) : SEs X n sc names (x :: xs) (e :: es) := by
  intro env A s Φ ρ σ Q pos he eo hr ok F h
  simp only [mEvals] at h
  rw [starEach_cons hs]
  show wpAny _ A (spliced ((false, eval x env) :: backTo pos (starEach xs env))) _ _ s
  refine Calls.spliced_cons (wpAny_mono (hx env A s Φ ρ σ _ he eo hr ok F h) ?_ fun xx xx h => h.elim)
  rintro v s₁ ⟨d, σ₁, Φ₁, st, r, q⟩
  refine wpAny_mono (hxs env A s₁ Φ₁ ρ σ₁ _ pos he eo hr st.ok (F.step st) q) ?_ fun xx xx h => h.elim
  rintro vs s₂ ⟨ds, σ₂, Φ₂, st₂, r₂, q₂⟩
  exact ⟨_, σ₂, Φ₂, st.trans st₂, .cons (r.mono st₂.mono) r₂, q₂⟩
end
theorem small_bits {i : Int} (h : small i) : Builtin.Int.intBits i ≤ 64 := by
  obtain ⟨h1, h2⟩ := h
  exact intBits_le_64 (by omega) (by omega)
theorem small_log {i : Int} (h : small i) : i.natAbs.log2 < 9000 := by
  obtain ⟨h1, h2⟩ := h
  by_cases h0 : i.natAbs = 0
  · rw [h0]; decide +kernel
  · have : i.natAbs.log2 < 65 := (Nat.log2_lt h0).mpr (by omega)
    omega

mutual
theorem Rd.reads {Φ : Fz} {h : Heap} (hk : ∀ b o, Φ b = some o → h.get? b = some o) : ∀ {v : Value} {d : D} (n : Nat), Rd Φ v d → d.ok n = true → ∃ as, Reads h v d.py as
  | _, _, _, .none, _ => ⟨_, by simpa [D.py] using Reads.none⟩
  | _, _, _, .bool b, _ => ⟨_, by simpa [D.py] using Reads.bool b⟩
  | _, _, _, .int i t, _ => ⟨_, by simpa [D.py] using Reads.int i t⟩
  | _, _, _, .str x t, _ => ⟨_, by simpa [D.py] using Reads.str x t⟩
  | _, _, 0, .tup _ _ _ _, hn => by simp [D.ok] at hn
  | _, _, 0, .lst _ _ _ _ _, hn => by simp [D.ok] at hn
  | _, _, n, .ref _, hn => by cases n <;> simp [D.ok] at hn
  | _, _, n + 1, .tup ho hc hd r, hn => by
    obtain ⟨as, q⟩ := RdAll.reads hk n r (by simpa [D.ok] using hn)
    rw [D.py]
    exact ⟨as, Reads.tuple (hk _ _ ho) hc hd q⟩
  | _, _, n + 1, .lst ho hc hd _ r, hn => by
    obtain ⟨as, q⟩ := RdAll.reads hk n r (by simpa [D.ok] using hn)
    rw [D.py]
    exact ⟨_, Reads.list (hk _ _ ho) hc hd q⟩
theorem RdAll.reads {Φ : Fz} {h : Heap} (hk : ∀ b o, Φ b = some o → h.get? b = some o) : ∀ {vs : List Value} {ds : List D} (n : Nat), RdAll Φ vs ds → (∀ d ∈ ds, d.ok n = true) → ∃ as, ReadsAll h vs (D.pys ds) as
  | _, _, _, .nil, _ => ⟨_, by rw [D.pys]; exact ReadsAll.nil⟩
  | _, _, n, .cons hd r, hn => by
    obtain ⟨as, q⟩ := Rd.reads hk n hd (hn _ (.head _))
    obtain ⟨bs, p⟩ := RdAll.reads hk n r fun d hm => hn d (.tail _ hm)
    rw [D.pys]
    exact ⟨_, ReadsAll.cons q p⟩
end
theorem ok_lay : ∀ (n : Nat) (d : D), d.ok n = true → d.py.canLay0 = true ∧ d.py.depth ≤ n := by
  have all : ∀ (n : Nat), (∀ d : D, d.ok n = true → d.py.canLay0 = true ∧ d.py.depth ≤ n) → ∀ ds : List D, (∀ d ∈ ds, d.ok n = true) → PyData.canLayAll0 (D.pys ds) = true ∧ PyData.depthAll (D.pys ds) ≤ n := by
    intro n ih ds
    induction ds with
    | nil => intro _; simp [D.pys, PyData.canLayAll0, PyData.depthAll]
    | cons d ds hi =>
      intro h
      have h1 := ih d (h d (.head _))
      have h2 := hi fun e he => h e (.tail _ he)
      simp only [D.pys, PyData.canLayAll0, PyData.depthAll, h1.1, h2.1, Bool.and_self, true_and]
      have a1 := h1.2
      have a2 := h2.2
      omega
  intro n
  induction n with
  | zero =>
    intro d h
    cases d <;> simp_all [D.ok, D.py, PyData.canLay0, PyData.depth]
  | succ n ih =>
    intro d h
    cases d with
    | none => simp [D.py, PyData.canLay0, PyData.depth]
    | bool b => simp [D.py, PyData.canLay0, PyData.depth]
    | int i => simp [D.py, PyData.canLay0, PyData.depth]
    | str x => simp [D.ok] at h; simp [D.py, PyData.canLay0, PyData.depth, h]
    | tup ds =>
      have q := all n ih ds (by simpa [D.ok] using h)
      have q2 := q.2
      simp only [D.py, PyData.canLay0, PyData.depth, q.1, true_and]
      omega
    | lst ds =>
      have q := all n ih ds (by simpa [D.ok] using h)
      have q2 := q.2
      simp only [D.py, PyData.canLay0, PyData.depth, q.1, true_and]
      omega
    | ref a => simp [D.ok] at h

theorem ok_shaped {n : Nat} {d : D} (h : d.ok n = true) (hn : n ≤ 64) : SeqAt.shaped d.py = true := by
  have q := ok_lay n d h
  unfold SeqAt.shaped
  rw [q.1, Bool.true_and]
  exact decide_eq_true (Nat.le_trans q.2 hn)

theorem pys_any (ds : List D) (d : D) : ((D.pys ds).any fun y => PyData.eqv y d.py) = ds.any fun y => eqv y d := by
  induction ds with
  | nil => rfl
  | cons x ds ih => simp only [D.pys, List.any_cons, ih, eqv]

section
variable {X : Cx} {n : Nat} {sc : Scope} {names : List Str}

noncomputable def opOf : BOp → Operator
  | .add => .Add
  | .sub => .Sub
  | .mul => .Mult
  | .fdiv => .FloorDiv
  | .mod => .Mod

set_option tactic.hygienic true in
theorem bin_sound {op : BOp} {A : Around} {s : Shared} {a b : Value} {x y : D} {Φ : Fz} {σ : Sg} {Q : D → Sg → Prop} (ok : Ok X.g σ Φ s.heap) (ra : Rd Φ a x) (rb : Rd Φ b y)
    (h : binT op x y fun r => Q r σ) : wpAny (model X.prog X.w) A (binaryOp (opOf op) a b) (Ev X s Φ σ Q) No s := by
  replace h := bin_of h
  obtain ⟨r, hr, h⟩ := h
  cases hr <;> cases ra <;> cases rb
  · exact add_int ⟨_, _, _, Step.tok ok _, .int _ _, h⟩
  · exact sub_int ⟨_, _, _, Step.tok ok _, .int _ _, h⟩
  · rename_i hm _ _
    refine mul_int ⟨_, _, _, Step.tok ok _, .int _ _, h⟩ ?_
    rcases hm with h | h
    · exact IntMulOk.of_left (small_bits h)
    · exact IntMulOk.of_right (small_bits h)
  · rename_i h0 h1 _ _; exact floordiv_int h0 ⟨_, _, _, Step.tok ok _, .int _ _, h⟩ (Or.inl (PyProof.noPylong_of_log2 (small_log h1)))
  · rename_i h0 _ _; exact mod_int' h0 ⟨_, _, _, Step.tok ok _, .int _ _, h⟩

theorem SE_bin {op : BOp} {o : Operator} {l r : Expr} {a b : E} {pos : Pos} (ho : opOf op = o) (hl : SE X n sc names l a) (hr : SE X n sc names r b) : SE X n sc names (.BinOp l o r pos) (.bin op a b) := by
  intro env A s Φ ρ σ Q he eo hroom ok F h
  subst ho
  refine wpAny_BinOp (wpAny_mono (hl env A s Φ ρ σ _ he eo hroom ok F h) ?_ fun xx xx h => h.elim)
  rintro v s₁ ⟨d, σ₁, Φ₁, st, r, q⟩
  refine wpAny_mono (hr env A s₁ Φ₁ ρ σ₁ _ he eo hroom st.ok (F.step st) q) ?_ fun xx xx h => h.elim
  rintro v₂ s₂ ⟨d₂, σ₂, Φ₂, st₂, r₂, q₂⟩
  refine wpAny_mono (bin_sound (Q := Q) st₂.ok (r.mono st₂.mono) r₂ q₂) ?_ fun xx xx h => h.elim
  rintro v₃ s₃ ⟨d₃, σ₃, Φ₃, st₃, r₃, q₃⟩
  exact ⟨d₃, σ₃, Φ₃, (st.trans st₂).trans st₃, r₃, q₃⟩

theorem SE_neg {x : Expr} {a : E} {pos : Pos} (hx : SE X n sc names x a) : SE X n sc names (.UnaryOp .USub x pos) (.neg a) := by
  intro env A s Φ ρ σ Q he eo hroom ok F h
  refine UnaryOp_ (wpAny_mono (hx env A s Φ ρ σ _ he eo hroom ok F h) ?_ fun xx xx h => h.elim)
  rintro v s₁ ⟨d, σ₁, Φ₁, st, r, q⟩
  obtain ⟨i, rfl, q⟩ := D.int_of q
  cases r
  exact neg_int ⟨_, _, _, st.trans (Step.tok st.ok _), .int _ _, q⟩

noncomputable def cmpOf : COp → CmpOp
  | .lt => .Lt | .le => .LtE | .gt => .Gt | .ge => .GtE | .eq => .Eq | .ne => .NotEq | .is_ => .Is | .isn => .IsNot | .in_ => .In | .nin => .NotIn

theorem cmp_sound {op : COp} {A : Around} {s : Shared} {a b : Value} {x y : D} {Φ : Fz} {σ : Sg} {P : Bool → Prop} (hr : Room X n A) (ok : Ok X.g σ Φ s.heap) (ra : Rd Φ a x) (rb : Rd Φ b y)
    (h : cmpT op x y P) : wpAny (model X.prog X.w) A (compareOp (cmpOf op) a b) (fun v s' => s' = s ∧ ∃ r, v = .bool r ∧ P r) No s := by
  have hk : ∀ b o, Φ b = some o → s.heap.get? b = some o := fun b o e => (ok.frz b o e).1
  have hu : A.units + 64 < cLine := by have := hr.2.2; omega
  replace h := cmp_of h
  obtain ⟨r, hc, h⟩ := h
  cases hc with
  | lt => cases ra; cases rb; exact lt_int ⟨rfl, _, rfl, h⟩
  | le => cases ra; cases rb; exact le_int ⟨rfl, _, rfl, h⟩
  | gt => cases ra; cases rb; exact gt_int ⟨rfl, _, rfl, h⟩
  | ge => cases ra; cases rb; exact ge_int ⟨rfl, _, rfl, h⟩
  | eq _ _ h1 h2 =>
    obtain ⟨as, qa⟩ := ra.reads hk 8 h1
    obtain ⟨bs, qb⟩ := rb.reads hk 8 h2
    exact eq_dataH qa qb (ok_shaped h1 (by decide)) (ok_shaped h2 (by decide)) hu ⟨rfl, _, rfl, h⟩
  | ne _ _ h1 h2 =>
    obtain ⟨as, qa⟩ := ra.reads hk 8 h1
    obtain ⟨bs, qb⟩ := rb.reads hk 8 h2
    exact ne_dataH qa qb (ok_shaped h1 (by decide)) (ok_shaped h2 (by decide)) hu ⟨rfl, _, rfl, h⟩
  | is_ =>
    cases rb
    refine is_none ⟨rfl, _, rfl, ?_⟩
    cases ra <;> exact h
  | isn =>
    cases rb
    refine isNot_none ⟨rfl, _, rfl, ?_⟩
    cases ra <;> exact h
  | in_ _ ds h1 h2 =>
    obtain ⟨as, qa⟩ := ra.reads hk 8 h1
    obtain ⟨bs, qb⟩ := rb.reads hk 9 h2
    have l := ok_lay 9 _ h2
    have l1 := ok_lay 8 _ h1
    rw [D.py] at qb l
    simp only [PyData.canLay0, PyData.depth] at l
    refine SeqAt.in_list_reads qb qa l.1 l1.1 ?_ ⟨rfl, _, rfl, by rw [pys_any]; exact h⟩
    have := Nat.min_le_right (PyData.depthAll (D.pys ds)) x.py.depth
    have := l1.2
    omega
  | nin _ ds h1 h2 =>
    obtain ⟨as, qa⟩ := ra.reads hk 8 h1
    obtain ⟨bs, qb⟩ := rb.reads hk 9 h2
    have l := ok_lay 9 _ h2
    have l1 := ok_lay 8 _ h1
    rw [D.py] at qb l
    simp only [PyData.canLay0, PyData.depth] at l
    refine SeqAt.notIn_list_reads qb qa l.1 l1.1 ?_ ⟨rfl, _, rfl, by rw [pys_any]; exact h⟩
    have := Nat.min_le_right (PyData.depthAll (D.pys ds)) x.py.depth
    have := l1.2
    omega

theorem SE_cmp {op : COp} {o : CmpOp} {l r : Expr} {a b : E} {pos : Pos} (ho : cmpOf op = o) (hl : SE X n sc names l a) (hr : SE X n sc names r b) (hm : behindInMarks o r = false) :
    SE X n sc names (.Compare l [o] [r] pos) (.cmp op a b) := by
  intro env A s Φ ρ σ Q he eo hroom ok F h
  subst ho
  refine wpAny_Compare1 (wpAny_mono (hl env A s Φ ρ σ _ he eo hroom ok F h) ?_ fun xx xx h => h.elim) hm
  rintro v s₁ ⟨d, σ₁, Φ₁, st, r, q⟩
  refine wpAny_mono (hr env A s₁ Φ₁ ρ σ₁ _ he eo hroom st.ok (F.step st) q) ?_ fun xx xx h => h.elim
  rintro v₂ s₂ ⟨d₂, σ₂, Φ₂, st₂, r₂, q₂⟩
  refine wpAny_mono (cmp_sound hroom st₂.ok (r.mono st₂.mono) r₂ q₂) ?_ fun xx xx h => h.elim
  rintro _ _ ⟨rfl, b, rfl, q₃⟩
  exact ⟨_, σ₂, Φ₂, st.trans st₂, .bool b, q₃⟩

theorem ST_cmp {op : COp} {o : CmpOp} {l r : Expr} {a b : E} {pos : Pos} (ho : cmpOf op = o) (hl : SE X n sc names l a) (hr : SE X n sc names r b) (hm : behindInMarks o r = false) :
    ST X n sc names (.Compare l [o] [r] pos) (.cmp op a b) := by
  intro env A s Φ ρ σ Q P he eo hroom ok F hQ h
  subst ho
  refine wpAny_isTrue_Compare1 (wpAny_mono (hl env A s Φ ρ σ _ he eo hroom ok F h) ?_ fun xx xx h => h.elim) hm
  rintro v s₁ ⟨d, σ₁, Φ₁, st, r, q⟩
  refine wpAny_mono (hr env A s₁ Φ₁ ρ σ₁ _ he eo hroom st.ok (F.step st) q) ?_ fun xx xx h => h.elim
  rintro v₂ s₂ ⟨d₂, σ₂, Φ₂, st₂, r₂, q₂⟩
  refine wpAny_mono (cmp_sound hroom st₂.ok (r.mono st₂.mono) r₂ q₂) ?_ fun xx xx h => h.elim
  rintro _ _ ⟨rfl, b, rfl, q⟩
  obtain ⟨c, hc, q₃⟩ := hQ _ _ q
  cases hc
  exact wpAny_truthy_bool ⟨σ₂, Φ₂, st.trans st₂, q₃⟩

theorem SE_cmp2 {o1 o2 : COp} {p1 p2 : CmpOp} {l r t : Expr} {a b c : E} {pos : Pos} (h1 : cmpOf o1 = p1) (h2 : cmpOf o2 = p2) (hl : SE X n sc names l a) (hr : SE X n sc names r b) (ht : SE X n sc names t c)
    (hm : lastMarks [p1, p2] [r, t] = false) : SE X n sc names (.Compare l [p1, p2] [r, t] pos) (.cmp2 o1 o2 a b c) := by
  intro env A s Φ ρ σ Q he eo hroom ok F h
  subst h1; subst h2
  refine Compare_chain (wpAny_mono (hl env A s Φ ρ σ _ he eo hroom ok F h) ?_ fun xx xx h => h.elim) hm
  rintro v s₁ ⟨d, σ₁, Φ₁, st, r, q⟩
  refine chain_link (wpAny_mono (hr env A s₁ Φ₁ ρ σ₁ _ he eo hroom st.ok (F.step st) q) ?_ fun xx xx h => h.elim)
  rintro v₂ s₂ ⟨d₂, σ₂, Φ₂, st₂, r₂, q₂⟩
  refine wpAny_mono (cmp_sound hroom st₂.ok (r.mono st₂.mono) r₂ q₂) ?_ fun xx xx h => h.elim
  rintro _ _ ⟨rfl, b, rfl, q₃⟩
  refine wpAny_truthy_bool ?_
  cases b with
  | false =>
    rw [if_neg (by simp)] at q₃ ⊢
    exact ⟨_, σ₂, Φ₂, st.trans st₂, .bool false, q₃⟩
  | true =>
    rw [if_pos rfl] at q₃ ⊢
    refine chain_last (wpAny_mono (ht env A _ Φ₂ ρ σ₂ _ he eo hroom st₂.ok ((F.step st).step st₂) q₃) ?_ fun xx xx h => h.elim)
    rintro v₄ s₄ ⟨d₄, σ₄, Φ₄, st₄, r₄, q₄⟩
    refine wpAny_mono (cmp_sound hroom st₄.ok (r₂.mono st₄.mono) r₄ q₄) ?_ fun xx xx h => h.elim
    rintro _ _ ⟨rfl, b, rfl, q₅⟩
    exact ⟨_, σ₄, Φ₄, (st.trans st₂).trans st₄, .bool b, q₅⟩

noncomputable def plainTest : Expr → Bool
  | .UnaryOp .Not .. => false
  | .BoolOp .. => false
  | .IfExp .. => false
  | .Compare .. => false
  | _ => true
theorem isTrue_eq {e : Expr} {env : Env} {whole : Sem Value} (h : plainTest e = true) : isTrue e env whole = (do let v ← whole; standAt e.pos; holding [v] (truthy v)) := by
  cases e with
  | UnaryOp op x p => cases op <;> first | rfl | cases h
  | BoolOp => cases h
  | IfExp => cases h
  | Compare => cases h
  | _ => rfl

theorem ST_plain {x : Expr} {e : E} (hx : SE X n sc names x e) (hp : plainTest x = true) : ST X n sc names x e := by
  intro env A s Φ ρ σ Q P he eo hroom ok F hQ h
  refine isTrue_plain (wpAny_mono (hx env A s Φ ρ σ _ he eo hroom ok F h) ?_ fun xx xx h => h.elim) (isTrue_eq hp)
  rintro v s₁ ⟨d, σ₁, Φ₁, st, r, q⟩
  obtain ⟨c, rfl, q'⟩ := hQ _ _ q
  cases r
  exact wpAny_truthy_bool ⟨σ₁, Φ₁, st, q'⟩

theorem ST_not {x : Expr} {e : E} {pos : Pos} (hx : ST X n sc names x e) : ST X n sc names (.UnaryOp .Not x pos) (.not_ e) := by
  intro env A s Φ ρ σ Q P he eo hroom ok F hQ h
  refine isTrue_not (wpAny_mono (hx env A s Φ ρ σ _ (fun b σ => P (!b) σ) he eo hroom ok F ?_ h) ?_ fun xx xx h => h.elim)
  · intro d σ q
    obtain ⟨b, rfl, q⟩ := D.bool_of q
    obtain ⟨c, hc, q⟩ := hQ _ _ q
    cases hc
    exact ⟨b, rfl, q⟩
  · rintro b s₁ ⟨σ₁, Φ₁, st, q⟩
    exact ⟨σ₁, Φ₁, st, q⟩

theorem SE_not {x : Expr} {e : E} {pos : Pos} (hx : SE X n sc names x e) : SE X n sc names (.UnaryOp .Not x pos) (.not_ e) := by
  intro env A s Φ ρ σ Q he eo hroom ok F h
  refine UnaryOp_ (wpAny_mono (hx env A s Φ ρ σ _ he eo hroom ok F h) ?_ fun xx xx h => h.elim)
  rintro v s₁ ⟨d, σ₁, Φ₁, st, r, q⟩
  obtain ⟨b, rfl, q⟩ := D.bool_of q
  cases r
  exact not_of (wpAny_truthy_bool ⟨_, σ₁, Φ₁, st, .bool _, q⟩)

theorem SE_one {op : BoolOp} {x : Expr} {e : E} {pos : Pos} (hx : SE X n sc names x e) : SE X n sc names (.BoolOp op [x] pos) e := by
  intro env A s Φ ρ σ Q he eo hroom ok F h
  exact BoolOp_one (hx env A s Φ ρ σ Q he eo hroom ok F h)
theorem SE_and {x y : Expr} {rest : List Expr} {a b : E} {pos : Pos} (hx : SE X n sc names x a) (hy : SE X n sc names (.BoolOp .And (y :: rest) pos) b) :
    SE X n sc names (.BoolOp .And (x :: y :: rest) pos) (.and_ a b) := by
  intro env A s Φ ρ σ Q he eo hroom ok F h
  refine BoolOp_and (wpAny_mono (hx env A s Φ ρ σ _ he eo hroom ok F h) ?_ fun xx xx h => h.elim)
  rintro v s₁ ⟨d, σ₁, Φ₁, st, r, q⟩
  obtain ⟨c, rfl, q⟩ := D.bool_of q
  cases r
  refine wpAny_truthy_bool ?_
  cases c with
  | false => exact ⟨_, σ₁, Φ₁, st, .bool false, q⟩
  | true =>
    refine wpAny_mono (hy env A s₁ Φ₁ ρ σ₁ _ he eo hroom st.ok (F.step st) q) ?_ fun xx xx h => h.elim
    rintro v₂ s₂ ⟨d₂, σ₂, Φ₂, st₂, r₂, q₂⟩
    exact ⟨_, σ₂, Φ₂, st.trans st₂, r₂, q₂⟩
theorem ST_one_and {x : Expr} {e : E} {pos : Pos} (hx : ST X n sc names x e) : ST X n sc names (.BoolOp .And [x] pos) e := by
  intro env A s Φ ρ σ Q P he eo hroom ok F hQ h
  refine isTrue_and (wpAny_mono (hx env A s Φ ρ σ Q P he eo hroom ok F hQ h) ?_ fun xx xx h => h.elim)
  rintro b s₁ ⟨σ₁, Φ₁, st, q⟩
  cases b with
  | false => exact ⟨σ₁, Φ₁, st, q⟩
  | true => exact isTrue_and_nil ⟨σ₁, Φ₁, st, q⟩
theorem ST_one_or {x : Expr} {e : E} {pos : Pos} (hx : ST X n sc names x e) : ST X n sc names (.BoolOp .Or [x] pos) e := by
  intro env A s Φ ρ σ Q P he eo hroom ok F hQ h
  refine isTrue_or (wpAny_mono (hx env A s Φ ρ σ Q P he eo hroom ok F hQ h) ?_ fun xx xx h => h.elim)
  rintro b s₁ ⟨σ₁, Φ₁, st, q⟩
  cases b with
  | true => exact ⟨σ₁, Φ₁, st, q⟩
  | false => exact isTrue_or_nil ⟨σ₁, Φ₁, st, q⟩
theorem ST_and {x y : Expr} {rest : List Expr} {a b : E} {pos : Pos} (hx : ST X n sc names x a) (hy : ST X n sc names (.BoolOp .And (y :: rest) pos) b) :
    ST X n sc names (.BoolOp .And (x :: y :: rest) pos) (.and_ a b) := by
  intro env A s Φ ρ σ Q P he eo hroom ok F hQ h
  refine isTrue_and (wpAny_mono (hx env A s Φ ρ σ _ (fun c σ => if c = true then mEval X n b ρ σ Q else Q (.bool false) σ) he eo hroom ok F (fun xx xx h => D.bool_of h) h) ?_ fun xx xx h => h.elim)
  rintro c s₁ ⟨σ₁, Φ₁, st, q⟩
  cases c with
  | false =>
    obtain ⟨c, hc, q⟩ := hQ _ _ q
    cases hc
    exact ⟨σ₁, Φ₁, st, q⟩
  | true =>
    refine wpAny_mono (hy env A s₁ Φ₁ ρ σ₁ Q P he eo hroom st.ok (F.step st) hQ q) ?_ fun xx xx h => h.elim
    rintro b s₂ ⟨σ₂, Φ₂, st₂, q₂⟩
    exact ⟨σ₂, Φ₂, st.trans st₂, q₂⟩
theorem ST_or {x y : Expr} {rest : List Expr} {a b : E} {pos : Pos} (hx : ST X n sc names x a) (hy : ST X n sc names (.BoolOp .Or (y :: rest) pos) b) :
    ST X n sc names (.BoolOp .Or (x :: y :: rest) pos) (.or_ a b) := by
  intro env A s Φ ρ σ Q P he eo hroom ok F hQ h
  refine isTrue_or (wpAny_mono (hx env A s Φ ρ σ _ (fun c σ => if c = true then Q (.bool true) σ else mEval X n b ρ σ Q) he eo hroom ok F (fun xx xx h => D.bool_of h) h) ?_ fun xx xx h => h.elim)
  rintro c s₁ ⟨σ₁, Φ₁, st, q⟩
  cases c with
  | true =>
    obtain ⟨c, hc, q⟩ := hQ _ _ q
    cases hc
    exact ⟨σ₁, Φ₁, st, q⟩
  | false =>
    refine wpAny_mono (hy env A s₁ Φ₁ ρ σ₁ Q P he eo hroom st.ok (F.step st) hQ q) ?_ fun xx xx h => h.elim
    rintro b s₂ ⟨σ₂, Φ₂, st₂, q₂⟩
    exact ⟨σ₂, Φ₂, st.trans st₂, q₂⟩

theorem push_step {s : Shared} {σ : Sg} {Φ : Fz} (ok : Ok X.g σ Φ s.heap) (o : Obj) : Step X.g s { s with heap := s.heap.push o } Φ Φ σ σ :=
  Step.keeps (tk := s.toks) ok fun xx xx e => Heap.get?_push_of_some _ e

theorem made_tup {s s₁ : Shared} {σ σ₁ : Sg} {Φ Φ₁ : Fz} {vs : List Value} {ds : List D} {Q : D → Sg → Prop} (st : Step X.g s s₁ Φ Φ₁ σ σ₁) (r : RdAll Φ₁ vs ds) (q : Q (.tup ds) σ₁) :
    Ev X s Φ σ Q (.ref s₁.heap.objs.size) { s₁ with heap := s₁.heap.push { cls := .type "tuple", data := .seq vs.toArray } } := by
  have hn := size_none s₁.heap
  refine ⟨_, σ₁, _, (st.trans (push_step st.ok _)).freeze (st.live _ hn) (Heap.get?_push_size _ rfl) (st.ok.freshS hn) (st.ok.freshF hn), ?_, q⟩
  refine Rd.tup (Fz.put_self _ _ _) rfl rfl ?_
  simpa using r.mono (Fz.le_put (st.ok.freshF hn))

theorem SE_tup {xs : List Expr} {es : List E} {k : Nat} {pos : Pos} (hx : SEs X n sc names xs es) : SE X n sc names (.Tuple xs k pos) (.tupE es) := by
  intro env A s Φ ρ σ Q he eo hroom ok F h
  refine wpAny_Tuple (wpAny_mono (hx env A s Φ ρ σ _ pos he eo hroom ok F h) ?_ fun xx xx h => h.elim)
  rintro vs s₁ ⟨ds, σ₁, Φ₁, st, r, hlen, q⟩
  exact ⟨by rw [r.length]; unfold sizeLine; (first | with_reducible exact oo3 ‹_› | omega), made_tup st r q⟩
theorem SL_disp {xs : List Expr} {es : List E} {pos : Pos} (hx : SEs X n sc names xs es) : SL X n sc names (.List xs pos) (.disp es) := by
  intro env A s Φ ρ σ Q he eo hroom ok F h
  refine wpAny_List (wpAny_mono (hx env A s Φ ρ σ _ pos he eo hroom ok F h) ?_ fun xx xx h => h.elim)
  rintro vs s₁ ⟨ds, σ₁, Φ₁, st, r, hlen, q⟩
  have hsz : vs.length ≤ sizeLine := by rw [r.length]; unfold sizeLine; (first | with_reducible exact oo3 ‹_› | omega)
  exact ⟨hsz, s₁.heap.objs.size, vs.toArray, ds, σ₁, Φ₁, rfl, st.trans (push_step st.ok _), st.live _ (size_none _), ⟨0, Heap.get?_push_size _ rfl⟩, st.ok.freshS (size_none _), st.ok.freshF (size_none _), by simpa using r, q⟩

theorem SE_lst {x : Expr} {l : L} (hx : SL X n sc names x l) : SE X n sc names x (.lst l) := by
  intro env A s Φ ρ σ Q he eo hroom ok F h
  refine wpAny_mono (hx env A s Φ ρ σ _ he eo hroom ok F h) ?_ fun xx xx h => h.elim
  rintro v s₁ ⟨a, vs, ds, σ₁, Φ₁, rfl, st, hn, ⟨k, ho⟩, h1, h2, r, q⟩
  exact ⟨_, σ₁, _, st.freeze hn ho h1 h2, .lst (Fz.put_self _ _ _) rfl rfl rfl (r.mono (Fz.le_put h2)), q⟩
end
section
variable {X : Cx} {n : Nat} {sc : Scope} {names : List Str}

theorem Ok.gkeep {σ : Sg} {Φ : Fz} {h : Heap} (ok : Ok X.g σ Φ h) : ∀ b o, X.g.get? b = some o → h.get? b = some o := fun b o e => (ok.base b o e).1

theorem name_blt {env : Env} {A : Around} {s : Shared} {σ : Sg} {Φ : Fz} {x : Str} {v : Value} {p : Pos} {Q : Value → Shared → Prop} (G : Gnd X) (ok : Ok X.g σ Φ s.heap) (eo : EnvOk env)
    (hx : env.kindOf x = some .globalImplicit) (hv : (x, v) ∈ bNames) (hd : (x == ("__debug__" : Str)) = false) (h : Q v s) : wpAny (model X.prog X.w) A (eval (.Name x p) env) Q No s := by
  have b := G.blt _ hv
  refine Calls.Name_function_global eo.kind hx (Calls.loadGlobal_builtin (mg := X.mg) (mb := X.mb) ?_ b.1 ?_ b.2 h) hd
  · rw [eo.glob]; exact G.gl.keeps ok.gkeep
  · rw [eo.blt]; exact G.bl.keeps ok.gkeep

theorem name_fn {env : Env} {A : Around} {s : Shared} {σ : Sg} {Φ : Fz} {x : Str} {v : Value} {p : Pos} {Q : Value → Shared → Prop} (G : Gnd X) (ok : Ok X.g σ Φ s.heap) (eo : EnvOk env)
    (hx : env.kindOf x = some .globalImplicit) (hv : X.mg x = some v) (hd : (x == ("__debug__" : Str)) = false) (h : Q v s) : wpAny (model X.prog X.w) A (eval (.Name x p) env) Q No s := by
  refine Calls.Name_function_global eo.kind hx (Calls.loadGlobal_global (mg := X.mg) ?_ hv h) hd
  rw [eo.glob]; exact G.gl.keeps ok.gkeep

theorem plain_star {pos : Pos} {env : Env} : ∀ (xs : List Expr), xs.all notStar = true → (backTo pos (starEach xs env)).any (·.1) = false
  | [], _ => rfl
  | x :: xs, h => by
    simp only [List.all_cons, Bool.and_eq_true] at h
    rw [starEach_cons h.1]
    show (false || (backTo pos (starEach xs env)).any (·.1)) = false
    rw [plain_star xs h.2]; rfl

theorem SE_call {f : Str} {x : Expr} {xs : List Expr} {es : List E} {p pos : Pos} (G : Gnd X) (hf : IsFn X f) (hx : SEs X n sc names (x :: xs) es) (hk : sc.names.lookup f = some .globalImplicit) (hs : (x :: xs).all notStar = true)
    (hd : (f == ("__debug__" : Str)) = false) : SE X n sc names (.Call (.Name f p) (x :: xs) [] pos) (.call f es) := by
  intro env A s Φ ρ σ Q he eo hroom ok F h
  have hkf : env.kindOf f = some .globalImplicit := by rw [Env.kindOf_sc he]; exact hk
  simp only [List.all_cons, Bool.and_eq_true] at hs
  refine Call_Name rfl ?_
  obtain ⟨a, o, fd, h1, h2, h3⟩ := hf
  refine name_fn G ok eo hkf h1 hd ?_
  refine callWith_def (o := o) (fd := fd) h3 (wpAny_mono (hx env A s Φ ρ σ _ pos he eo hroom ok F h) ?_ fun xx xx h => h.elim) (starEach_cons hs.1)
  rintro vs s₁ ⟨ds, σ₁, Φ₁, st, r, q⟩
  refine ⟨(st.ok.base _ _ h2).1, wpAny_mono ((q a h1).wp hroom st.ok r) ?_ fun xx xx h => h.elim⟩
  rintro v s₂ ⟨d, σ₂, Φ₂, st₂, r₂, q₂⟩
  exact ⟨d, σ₂, Φ₂, st.trans st₂, r₂, q₂⟩

theorem call_blt {f : Str} {fv : Value} {x : Expr} {xs : List Expr} {es : List E} {p pos : Pos} {env : Env} {A : Around} {s : Shared} {Φ : Fz} {ρ : List MV} {σ : Sg} {Qs : List D → Sg → Prop} {K : Value → Shared → Prop}
    (G : Gnd X) (hv : (f, fv) ∈ bNames) (hx : SEs X n sc names (x :: xs) es) (hk : sc.names.lookup f = some .globalImplicit) (hs : (x :: xs).all notStar = true)
    (he : env.scope = sc) (eo : EnvOk env) (hroom : Room X n A) (ok : Ok X.g σ Φ s.heap) (F : Frame X.g env names ρ σ Φ s.heap) (h : mEvals X n es ρ σ Qs)
    (hc : ∀ vs s₁ ds σ₁ Φ₁, Step X.g s s₁ Φ Φ₁ σ σ₁ → RdAll Φ₁ vs ds → Qs ds σ₁ → wpAny (model X.prog X.w) A (call fv vs) K No s₁) :
    wpAny (model X.prog X.w) A (eval (.Call (.Name f p) (x :: xs) [] pos) env) K No s := by
  have hkf : env.kindOf f = some .globalImplicit := by rw [Env.kindOf_sc he]; exact hk
  simp only [List.all_cons, Bool.and_eq_true] at hs
  refine Call_Name rfl ?_
  have hd : (f == ("__debug__" : Str)) = false ∧ ((∃ id, fv = .builtin id) ∨ ∃ T, fv = .type T) := by
    simp only [bNames, List.mem_cons, Prod.mk.injEq, List.not_mem_nil, or_false] at hv
    rcases hv with ⟨rfl, rfl⟩ | ⟨rfl, rfl⟩ | ⟨rfl, rfl⟩ | ⟨rfl, rfl⟩ | ⟨rfl, rfl⟩ | ⟨rfl, rfl⟩ | ⟨rfl, rfl⟩ | ⟨rfl, rfl⟩ | ⟨rfl, rfl⟩ | ⟨rfl, rfl⟩ | ⟨rfl, rfl⟩ | ⟨rfl, rfl⟩ | ⟨rfl, rfl⟩ <;>
      first | exact ⟨by decide, .inl ⟨_, rfl⟩⟩ | exact ⟨by decide, .inr ⟨_, rfl⟩⟩
  refine name_blt G ok eo hkf hv hd.1 ?_
  have main : wpAny (model X.prog X.w) A (spliced (backTo pos (starEach (x :: xs) env))) (fun vs s₁ => wpAny (model X.prog X.w) A (call fv vs) K No s₁) No s := by
    refine wpAny_mono (hx env A s Φ ρ σ _ pos he eo hroom ok F h) ?_ fun xx xx h => h.elim
    rintro vs s₁ ⟨ds, σ₁, Φ₁, st, r, q⟩
    exact hc vs s₁ ds σ₁ Φ₁ st r q
  rcases hd.2 with ⟨id, rfl⟩ | ⟨T, rfl⟩
  · exact PyProof.Rows.callWith_builtin1 main (starEach_cons hs.1) (plain_star xs hs.2)
  · exact PyProof.Rows.callWith_type1 main (starEach_cons hs.1) (plain_star xs hs.2)

theorem Rd.isList {Φ : Fz} {σ : Sg} {h : Heap} {a : Addr} {ds : List D} (ok : Ok X.g σ Φ h) (r : Rd Φ (.ref a) (.lst ds)) : ∃ vs, h.IsList a vs ∧ RdAll Φ vs.toList ds ∧ Φ a ≠ Option.none := by
  cases r with
  | lst ho hc hd _ r => exact ⟨_, ⟨_, (ok.frz _ _ ho).1, hc, _, hd⟩, r, by rw [ho]; simp⟩
theorem Rd.isTup {Φ : Fz} {σ : Sg} {h : Heap} {a : Addr} {ds : List D} (ok : Ok X.g σ Φ h) (r : Rd Φ (.ref a) (.tup ds)) : ∃ vs, IsTup h a vs ∧ RdAll Φ vs.toList ds ∧ Φ a ≠ Option.none := by
  cases r with
  | tup ho hc hd r => exact ⟨_, ⟨_, (ok.frz _ _ ho).1, hc, _, hd⟩, r, by rw [ho]; simp⟩
theorem Rd.lst_ref {Φ : Fz} {v : Value} {ds : List D} (r : Rd Φ v (.lst ds)) : ∃ a, v = .ref a := by cases r; exact ⟨_, rfl⟩
theorem Rd.tup_ref {Φ : Fz} {v : Value} {ds : List D} (r : Rd Φ v (.tup ds)) : ∃ a, v = .ref a := by cases r; exact ⟨_, rfl⟩

theorem intsRead {Φ : Fz} : ∀ {vs : List Value} {ns : List Int}, RdAll Φ vs (ns.map D.int) → ∃ xs : List (Int × Tok), vs = xs.map (fun p => Value.int p.1 p.2) ∧ xs.map (·.1) = ns
  | [], [], _ => ⟨[], rfl, rfl⟩
  | [], _ :: _, h => by cases h
  | _ :: _, [], h => by cases h
  | v :: vs, i :: ns, h => by
    cases h with
    | cons h r =>
      obtain ⟨xs, rfl, rfl⟩ := intsRead r
      cases h with
      | int i t => exact ⟨(i, t) :: xs, rfl, rfl⟩

theorem intItems_list (xs : List (Int × Tok)) : intItems xs.toArray = (xs.map fun p => Value.int p.1 p.2).toArray := by simp [intItems]

theorem SE_len {x : Expr} {e : E} {p pos : Pos} (G : Gnd X) (hx : SE X n sc names x e) (hk : sc.names.lookup ("len" : Str) = some .globalImplicit) (hs : notStar x = true) :
    SE X n sc names (.Call (.Name "len" p) [x] [] pos) (.bi .len [e]) := by
  intro env A s Φ ρ σ Q he eo hroom ok F h
  refine call_blt G (f := "len") (fv := .builtin "len") (by simp [bNames]) (SEs_cons hx SEs_nil hs) hk (by simp [hs]) he eo hroom ok F h ?_
  intro vs s₁ ds σ₁ Φ₁ st r q
  replace q := bi_of q
  obtain ⟨d, hd, q⟩ := q
  cases hd with
  | lenT ds hlen =>
    cases r with
    | cons r1 r2 =>
      cases r2
      obtain ⟨a, rfl⟩ := r1.tup_ref
      obtain ⟨vs, hl, ra, _⟩ := r1.isTup st.ok
      have e := ra.length
      simp only [Array.length_toList] at e
      refine PyProof.Rows.len_tuple hl (by omega) ?_
      exact ⟨_, σ₁, Φ₁, st.trans (Step.tok st.ok _), .int _ _, by rw [e]; exact q⟩
  | lenL ds hlen =>
    cases r with
    | cons r1 r2 =>
      cases r2
      obtain ⟨a, rfl⟩ := r1.lst_ref
      obtain ⟨vs, hl, ra, _⟩ := r1.isList st.ok
      have e := ra.length
      simp only [Array.length_toList] at e
      refine Calls.call_len_list hl (by omega) ?_
      exact ⟨_, σ₁, Φ₁, st.trans (Step.tok st.ok _), .int _ _, by rw [e]; exact q⟩

theorem preSum_list (xs : List (Int × Tok)) : preSum (numAt xs.toArray) xs.toArray.size = (xs.map (·.1)).sum := by
  rw [preSum_eq]
  have : xs.toArray.size = (xs.map (·.1)).length := by simp
  rw [this]
  simp only [List.take_length]

theorem SE_sum {x : Expr} {e : E} {p pos : Pos} (hcm : X.calm = true) (G : Gnd X) (hx : SE X n sc names x e) (hk : sc.names.lookup ("sum" : Str) = some .globalImplicit) (hs : notStar x = true) :
    SE X n sc names (.Call (.Name "sum" p) [x] [] pos) (.bi .sum [e]) := by
  intro env A s Φ ρ σ Q he eo hroom ok F h
  refine call_blt G (f := "sum") (fv := .builtin "sum") (by simp [bNames]) (SEs_cons hx SEs_nil hs) hk (by simp [hs]) he eo hroom ok F h ?_
  intro vs s₁ ds σ₁ Φ₁ st r q
  replace q := bi_of q
  obtain ⟨d, hd, q⟩ := q
  cases hd with
  | sum ns =>
    cases r with
    | cons r1 r2 =>
      cases r2
      obtain ⟨a, rfl⟩ := r1.lst_ref
      obtain ⟨vs, hl, ra, _⟩ := r1.isList st.ok
      obtain ⟨xs, hxs, rfl⟩ := intsRead ra
      have hv : vs = intItems xs.toArray := by rw [intItems_list, ← hxs]
      subst hv
      refine sum_intListG (hroom.1 hcm) hl fun h' tk t' hk => ?_
      exact ⟨_, σ₁, Φ₁, st.trans (Step.keeps st.ok hk), .int _ _, by rw [preSum_list]; exact q⟩

theorem SE_min2 {x y : Expr} {e f : E} {p pos : Pos} (hcm : X.calm = true) (G : Gnd X) (hx : SE X n sc names x e) (hy : SE X n sc names y f) (hk : sc.names.lookup ("min" : Str) = some .globalImplicit) (hs : notStar x = true) (ht : notStar y = true) :
    SE X n sc names (.Call (.Name "min" p) [x, y] [] pos) (.bi .min2 [e, f]) := by
  intro env A s Φ ρ σ Q he eo hroom ok F h
  refine call_blt G (f := "min") (fv := .builtin "min") (by simp [bNames]) (SEs_cons hx (SEs_cons hy SEs_nil ht) hs) hk (by simp [hs, ht]) he eo hroom ok F h ?_
  intro vs s₁ ds σ₁ Φ₁ st r q
  replace q := bi_of q
  obtain ⟨d, hd, q⟩ := q
  cases hd with
  | min2 a b =>
    cases r with
    | cons r1 r2 =>
      cases r2 with
      | cons r2 r3 =>
        cases r3; cases r1; cases r2
        refine min_two_ints (hroom.1 hcm) fun h' tk hk => ?_
        split at q
        · rw [if_pos (by assumption)]; exact ⟨_, σ₁, Φ₁, st.trans (Step.keeps st.ok hk), .int _ _, q⟩
        · rw [if_neg (by assumption)]; exact ⟨_, σ₁, Φ₁, st.trans (Step.keeps st.ok hk), .int _ _, q⟩

set_option tactic.hygienic true in
theorem SE_isi {T : String} {x : Expr} {e : E} {b : Bi} {p p' pos : Pos} (G : Gnd X) (hb : (b, T) ∈ [(Bi.isint, "int"), (Bi.isbool, "bool"), (Bi.islist, "list"), (Bi.istuple, "tuple")]) (hx : SE X n sc names x e)
    (hk : sc.names.lookup ("isinstance" : Str) = some .globalImplicit) (hT : sc.names.lookup (Str.ofString T) = some .globalImplicit) (hs : notStar x = true) :
    SE X n sc names (.Call (.Name "isinstance" p) [x, .Name (Str.ofString T) p'] [] pos) (.bi b [e]) := by
  intro env A s Φ ρ σ Q he eo hroom ok F h
  simp only [mEval, mEvals] at h
  have hTv : (Str.ofString T, Value.type T) ∈ bNames := by
    simp only [List.mem_cons, Prod.mk.injEq, List.not_mem_nil, or_false] at hb
    rcases hb with ⟨_, rfl⟩ | ⟨_, rfl⟩ | ⟨_, rfl⟩ | ⟨_, rfl⟩ <;> simp [bNames]
  have hTd : (Str.ofString T == ("__debug__" : Str)) = false := by
    simp only [List.mem_cons, Prod.mk.injEq, List.not_mem_nil, or_false] at hb
    rcases hb with ⟨_, rfl⟩ | ⟨_, rfl⟩ | ⟨_, rfl⟩ | ⟨_, rfl⟩ <;> decide
  refine Call_Name rfl ?_
  refine name_blt G ok eo (by rw [Env.kindOf_sc he]; exact hk) (v := .builtin "isinstance") (by simp [bNames]) (by decide) ?_
  refine PyProof.Rows.callWith_builtin1 ?_ (starEach_cons hs) (plain_star _ rfl)
  rw [starEach_cons hs]
  show wpAny _ A (spliced ((false, eval x env) :: (false, eval (.Name (Str.ofString T) p') env) :: [])) _ _ s
  refine Calls.spliced_cons (wpAny_mono (hx env A s Φ ρ σ _ he eo hroom ok F h) ?_ fun xx xx h => h.elim)
  rintro v s₁ ⟨d, σ₁, Φ₁, st, r, q⟩
  refine Calls.spliced_cons (name_blt G st.ok eo (by rw [Env.kindOf_sc he]; exact hT) hTv hTd ?_)
  refine Calls.spliced_nil ?_
  simp only [List.mem_cons, Prod.mk.injEq, List.not_mem_nil, or_false] at hb
  have fin0 : ∀ c, Q (.bool c) σ₁ → Ev X s Φ σ Q (.bool c) s₁ := fun c hc => ⟨_, σ₁, Φ₁, st, .bool c, hc⟩
  have fin1 : ∀ c, Q (.bool c) σ₁ → Ev X s Φ σ Q (.bool c) { s₁ with toks := s₁.toks + 1 } := fun c hc => ⟨_, σ₁, Φ₁, st.trans (Step.tok st.ok _), .bool c, hc⟩
  replace q : ∃ r, BiR b [d] r ∧ Q r σ₁ := bi_of (show biT b [d] fun r => Q r σ₁ from q)
  rcases hb with ⟨rfl, rfl⟩ | ⟨rfl, rfl⟩ | ⟨rfl, rfl⟩ | ⟨rfl, rfl⟩ <;> obtain ⟨d', hd', q⟩ := q <;> cases hd' <;> rename_i hq <;> cases r
  · exact IsiPair.NoneType_int (fin1 _ q)
  · exact IsiPair.bool_int (fin0 _ q)
  · exact IsiPair.int_int (fin0 _ q)
  · exact IsiPair.str_int (fin1 _ q)
  · rename_i ho hc hd _; exact IsiPair.tuple_int (st.ok.frz _ _ ho).1 hc (fin1 _ q)
  · rename_i ho hc hd _ _; exact IsiPair.list_int (st.ok.frz _ _ ho).1 hc (fin1 _ q)
  · exact absurd rfl (hq _)
  · exact IsiPair.NoneType_bool (fin1 _ q)
  · exact IsiPair.bool_bool (fin0 _ q)
  · exact IsiPair.int_bool (fin1 _ q)
  · exact IsiPair.str_bool (fin1 _ q)
  · rename_i ho hc hd _; exact IsiPair.tuple_bool (st.ok.frz _ _ ho).1 hc (fin1 _ q)
  · rename_i ho hc hd _ _; exact IsiPair.list_bool (st.ok.frz _ _ ho).1 hc (fin1 _ q)
  · exact absurd rfl (hq _)
  · exact IsiPair.NoneType_list (fin1 _ q)
  · exact IsiPair.bool_list (fin1 _ q)
  · exact IsiPair.int_list (fin1 _ q)
  · exact IsiPair.str_list (fin1 _ q)
  · rename_i ho hc hd _; exact IsiPair.tuple_list (st.ok.frz _ _ ho).1 hc (fin1 _ q)
  · rename_i ho hc hd _ _; exact IsiPair.list_list (st.ok.frz _ _ ho).1 hc (fin0 _ q)
  · exact absurd rfl (hq _)
  · exact IsiPair.NoneType_tuple (fin1 _ q)
  · exact IsiPair.bool_tuple (fin1 _ q)
  · exact IsiPair.int_tuple (fin1 _ q)
  · exact IsiPair.str_tuple (fin1 _ q)
  · rename_i ho hc hd _; exact IsiPair.tuple_tuple (st.ok.frz _ _ ho).1 hc (fin0 _ q)
  · rename_i ho hc hd _ _; exact IsiPair.list_tuple (st.ok.frz _ _ ho).1 hc (fin1 _ q)
  · exact absurd rfl (hq _)

noncomputable def notSlice : Expr → Bool
  | .Slice .. => false
  | _ => true
theorem subscripted_eq {slice : Expr} {o i : Value} (h : notSlice slice = true) : subscripted slice false o i = operate [o, i] (getItem o i) := by
  cases slice <;> first | rfl | cases h

theorem seqIndex_nat {k : Int} {m : Nat} (h0 : 0 ≤ k) (h1 : k < m) : seqIndex? k m = some k.toNat := by
  unfold seqIndex?
  have hn : ¬ k < 0 := by first | with_reducible exact Int.not_lt.mpr ‹_› | omega
  simp only [hn, if_false]
  have : (decide (0 ≤ k) && decide (k < (m : Int))) = true := by simp; omega
  rw [if_pos this]

theorem SE_idx {x y : Expr} {a i : E} {pos : Pos} (hx : SE X n sc names x a) (hy : SE X n sc names y i) (hs : notSlice y = true) : SE X n sc names (.Subscript x y pos) (.idx a i) := by
  intro env A s Φ ρ σ Q he eo hroom ok F h
  refine Subscript_ (wpAny_mono (hx env A s Φ ρ σ _ he eo hroom ok F h) ?_ fun xx xx h => h.elim)
  rintro v s₁ ⟨d, σ₁, Φ₁, st, r, q⟩
  refine wpAny_mono (hy env A s₁ Φ₁ ρ σ₁ _ he eo hroom st.ok (F.step st) q) ?_ fun xx xx h => h.elim
  rintro w s₂ ⟨d₂, σ₂, Φ₂, st₂, r₂, q₂⟩
  have r' := r.mono st₂.mono
  obtain ⟨d₃, hd₃, q₃⟩ := idx_of q₂
  cases hd₃ with
  | tup ds k _ h0 h1 hd =>
    obtain ⟨a, rfl⟩ := r'.tup_ref
    obtain ⟨vs, hl, ra, _⟩ := r'.isTup st₂.ok
    obtain ⟨v, hv, rv⟩ := ra.get hd
    cases r₂ with
    | int _ t =>
      have hlt : k.toNat < vs.toList.length := by
        rcases Nat.lt_or_ge k.toNat vs.toList.length with h | h
        · exact h
        · rw [List.getElem?_eq_none h] at hv; cases hv
      refine tail_any hl.typeIs slot_tuple_getitem.lookup (getItem_tuple (j := k.toNat) hl (by omega) h1 ?_ (by simpa using hv) ⟨_, σ₂, Φ₂, st.trans st₂, rv, q₃⟩) (subscripted_eq hs)
      simp only [Array.length_toList] at hlt
      exact seqIndex_nat h0 (by omega)
  | lst ds k _ h0 h1 hd =>
    obtain ⟨a, rfl⟩ := r'.lst_ref
    obtain ⟨vs, hl, ra, _⟩ := r'.isList st₂.ok
    obtain ⟨v, hv, rv⟩ := ra.get hd
    cases r₂ with
    | int _ t =>
      exact tail_any hl.typeIs slot_list_getitem.lookup (wpAny_getItem_list hl h0 h1 (by simpa using hv) ⟨_, σ₂, Φ₂, st.trans st₂, rv, q₃⟩) (subscripted_eq hs)
end
section
variable {X : Cx} {n : Nat} {sc : Scope} {names : List Str}

theorem call_blt1 {f : Str} {fv : Value} {x : Expr} {e : E} {p pos : Pos} {env : Env} {A : Around} {s : Shared} {Φ : Fz} {ρ : List MV} {σ : Sg} {P : D → Sg → Prop} {K : Value → Shared → Prop}
    (G : Gnd X) (hv : (f, fv) ∈ bNames) (hx : SE X n sc names x e) (hk : sc.names.lookup f = some .globalImplicit) (hs : notStar x = true)
    (he : env.scope = sc) (eo : EnvOk env) (hroom : Room X n A) (ok : Ok X.g σ Φ s.heap) (F : Frame X.g env names ρ σ Φ s.heap) (h : mEval X n e ρ σ P)
    (hc : ∀ v s₁ d σ₁ Φ₁, Step X.g s s₁ Φ Φ₁ σ σ₁ → Rd Φ₁ v d → P d σ₁ → wpAny (model X.prog X.w) A (call fv [v]) K No s₁) :
    wpAny (model X.prog X.w) A (eval (.Call (.Name f p) [x] [] pos) env) K No s := by
  refine call_blt (Qs := fun ds σ => ∃ d, ds = [d] ∧ P d σ) G hv (SEs_cons hx SEs_nil hs) hk (by simp [hs]) he eo hroom ok F ?_ ?_
  · simp only [mEvals, List.cons.injEq, and_true, exists_eq_left']; exact h
  · rintro vs s₁ _ σ₁ Φ₁ st r ⟨d, rfl, q⟩
    cases r with
    | cons r1 r2 => cases r2; exact hc _ s₁ d σ₁ Φ₁ st r1 q

theorem made_list {s s₁ s₂ : Shared} {σ σ₁ : Sg} {Φ Φ₁ : Fz} {a : Addr} {vs : Array Value} {ds : List D} {Q : List D → Sg → Prop} (st : Step X.g s s₁ Φ Φ₁ σ σ₁) (st₂ : Step X.g s₁ s₂ Φ₁ Φ₁ σ₁ σ₁)
    (hn : s₁.heap.get? a = none) (hl : s₂.heap.PlainList a vs) (r : RdAll Φ₁ vs.toList ds) (q : Q ds σ₁) : Evl X s Φ σ Q (.ref a) s₂ :=
  ⟨a, vs, ds, σ₁, Φ₁, rfl, st.trans st₂, st.live _ hn, hl, st.ok.freshS hn, st.ok.freshF hn, r, q⟩

theorem SL_list {x : Expr} {e : E} {p pos : Pos} (G : Gnd X) (hx : SE X n sc names x e) (hk : sc.names.lookup ("list" : Str) = some .globalImplicit) (hs : notStar x = true) :
    SL X n sc names (.Call (.Name "list" p) [x] [] pos) (.ofSeq (.seq e)) := by
  intro env A s Φ ρ σ Q he eo hroom ok F h
  refine call_blt1 G (f := "list") (fv := .type "list") (by simp [bNames]) hx hk hs he eo hroom ok F h ?_
  intro v s₁ d σ₁ Φ₁ st r q
  obtain ⟨rows, hq, q⟩ := seqT_of q
  cases hq with
  | tup ds =>
    simp only [List.length_map, List.map_map] at q
    have e1 : ((fun r : List D => r.headD .none) ∘ fun d => [d]) = id := rfl
    rw [e1, List.map_id] at q
    cases r with
    | tup ho hc hd ra =>
      have hl := ra.length
      refine call_list_seq _ (.inr rfl) (st.ok.frz _ _ ho).1 hc hd (fun h' c' k hg => ?_) (by simp only [Array.length_toList] at hl; unfold sizeLine; omega)
      exact made_list st (Step.keeps (tk := s₁.toks) st.ok k) (size_none _) ⟨_, hg⟩ ra q.2
  | one ds =>
    simp only [List.length_map, List.map_map] at q
    have e1 : ((fun r : List D => r.headD .none) ∘ fun d => [d]) = id := rfl
    rw [e1, List.map_id] at q
    cases r with
    | lst ho hc hd _ ra =>
      have hl := ra.length
      refine call_list_seq _ (.inl rfl) (st.ok.frz _ _ ho).1 hc hd (fun h' c' k hg => ?_) (by simp only [Array.length_toList] at hl; unfold sizeLine; omega)
      exact made_list st (Step.keeps (tk := s₁.toks) st.ok k) (size_none _) ⟨_, hg⟩ ra q.2
  | many rows h1 => exact absurd rfl h1

theorem range_obj {x : Expr} {e : E} {p pos : Pos} {env : Env} {A : Around} {s : Shared} {Φ : Fz} {ρ : List MV} {σ : Sg} {P : D → Sg → Prop} {K : Value → Shared → Prop}
    (G : Gnd X) (hx : SE X n sc names x e) (hk : sc.names.lookup ("range" : Str) = some .globalImplicit) (hs : notStar x = true)
    (he : env.scope = sc) (eo : EnvOk env) (hroom : Room X n A) (ok : Ok X.g σ Φ s.heap) (F : Frame X.g env names ρ σ Φ s.heap) (h : mEval X n e ρ σ P) (hP : ∀ d σ, P d σ → ∃ i, d = .int i)
    (hc : ∀ r i t s₁ s₂ σ₁ Φ₁, Step X.g s s₁ Φ Φ₁ σ σ₁ → Step X.g s₁ s₂ Φ₁ Φ₁ σ₁ σ₁ → s₁.heap.get? r = none → P (.int i) σ₁ → (∃ u w, IsRange s₂.heap r 0 i 1 u t w) → K (.ref r) s₂) :
    wpAny (model X.prog X.w) A (eval (.Call (.Name "range" p) [x] [] pos) env) K No s := by
  refine call_blt1 G (f := "range") (fv := .type "range") (by simp [bNames]) hx hk hs he eo hroom ok F h ?_
  intro v s₁ d σ₁ Φ₁ st r q
  obtain ⟨i, rfl⟩ := hP _ _ q
  cases r with
  | int _ t =>
    refine call_range_1 ?_
    exact hc _ i t s₁ _ σ₁ Φ₁ st (Step.keeps st.ok fun xx xx e => Heap.get?_push_of_some _ e) (size_none _) q ⟨_, _, IsRange.new ..⟩

theorem RdAll.of_get {Φ : Fz} : ∀ {vs : List Value} {ds : List D}, vs.length = ds.length → (∀ (j : Nat) (v : Value), vs[j]? = some v → ∃ d, ds[j]? = some d ∧ Rd Φ v d) → RdAll Φ vs ds
  | [], [], _, _ => .nil
  | [], _ :: _, h, _ => by simp at h
  | _ :: _, [], h, _ => by simp at h
  | v :: vs, d :: ds, h, k => by
    obtain ⟨d', hd, r⟩ := k 0 v rfl
    simp at hd; subst hd
    exact .cons r (RdAll.of_get (by simpa using h) fun j u hj => k (j + 1) u (by simpa using hj))

theorem SL_listRange {x : Expr} {e : E} {p p' pos pos' : Pos} (hcm : X.calm = true) (G : Gnd X) (hx : SE X n sc names x e) (hk : sc.names.lookup ("list" : Str) = some .globalImplicit) (hk' : sc.names.lookup ("range" : Str) = some .globalImplicit) (hs : notStar x = true) :
    SL X n sc names (.Call (.Name "list" p) [.Call (.Name "range" p') [x] [] pos'] [] pos) (.ofSeq (.range e)) := by
  intro env A s Φ ρ σ Q he eo hroom ok F h
  refine Call_Name rfl ?_
  refine name_blt G ok eo (by rw [Env.kindOf_sc he]; exact hk) (v := .type "list") (by simp [bNames]) (by decide) ?_
  refine PyProof.Rows.callWith_type1 ?_ rfl rfl
  show wpAny _ A (spliced ((false, eval (.Call (.Name "range" p') [x] [] pos') env) :: [])) _ _ s
  refine Calls.spliced_cons (range_obj G hx hk' hs he eo hroom ok F h (fun d σ q => ?_) ?_)
  · obtain ⟨i, e, _⟩ := D.int_of q; exact ⟨i, e⟩
  intro r i t s₁ s₂ σ₁ Φ₁ st st₂ hn q hr
  obtain ⟨u, w, hr⟩ := hr
  refine Calls.spliced_nil ?_
  replace q : 1 = 1 ∧ -(2 ^ 62) ≤ i ∧ i < 2 ^ 62 ∧ _ := q
  simp only [List.length_map, List.length_range, List.map_map] at q
  have hsz : Builtin.Range.rangeSize 0 i 1 = (i.toNat : Int) := by rw [rangeSize_one]; split <;> omega
  refine call_list_range (hroom.1 hcm) hr (small_one (by decide) (by decide) q.2.1 q.2.2.1) hsz (by omega) ?_
  rintro h' tk acc' c' k hg ⟨hsize, hitems⟩
  refine made_list (st.trans st₂) (Step.keeps (tk := tk) st₂.ok k) (size_none _) ⟨_, hg⟩ ?_ q.2.2.2.2
  have hh : ((fun r : List D => r.headD .none) ∘ fun (j : Nat) => [D.int (j : Int)]) = fun (j : Nat) => D.int (j : Int) := rfl
  rw [hh]
  refine RdAll.of_get (by simp [hsize]) fun j v hv => ?_
  have hj : j < i.toNat := by
    rcases Nat.lt_or_ge j acc'.toList.length with h | h
    · simpa [hsize] using h
    · rw [List.getElem?_eq_none h] at hv; cases hv
  obtain ⟨t, rfl⟩ := hitems j v (by simpa using hv)
  refine ⟨.int j, by simp [hj], ?_⟩
  have : (0 + (j : Int) * 1) = j := by omega
  rw [this]
  exact .int _ _

theorem foldl_replicate (v : Value) : ∀ (k : Nat) (acc : Array Value), List.foldl (fun x1 x2 => x1 ++ x2) acc (List.replicate k #[v]) = acc ++ (List.replicate k v).toArray
  | 0, acc => by simp
  | k + 1, acc => by
    rw [List.replicate_succ, List.foldl_cons, foldl_replicate v k]
    apply Array.toList_inj.mp
    simp [List.replicate_succ]

theorem mul_one {s : Shared} {A : Around} {l : Addr} {v : Value} {k : Nat} {x : Int} {u : Tok} {Q : Value → Shared → Prop} {prog : Program} {w : World} {E : Value → Shared → Prop}
    (hl : s.heap.get? l = some { cls := .type "list", dict := none, data := .seq #[v] k, slots := #[] }) (hlo : -(2 ^ 63 : Int) ≤ x) (hhi : x < 2 ^ 63) (hsz : x.toNat ≤ 2 ^ 20)
    (h : Q (.ref s.heap.objs.size) { s with heap := s.heap.push { cls := .type "list", data := .seq (List.replicate x.toNat v).toArray } }) :
    wpAny (model prog w) A (binaryOp .Mult (.ref l) (.int x u)) Q E s := by
  refine wpAny_binaryOp_repeat_ref (T := "list") (U := "int") (by decide) ⟨_, hl, rfl⟩ (fun s' => typeIs_int s' x u) noFill_list_mul F.fills_int_mul F.slot_int_rmul repeat_list F.slot_int_index.lookup
    (call_meets F.slot_int_rmul (typeIs_int s x u) F.entry_int_rmul (F.args_int_rmul_2 _ _) (int___rmul___int_list x u l #[v] k)
      ⟨hl, rfl, ⟨_, hl, rfl⟩, call_meets F.slot_list_mul ⟨_, hl, rfl⟩ F.entry_list_mul (F.args_list_mul_2 _ _)
        (AutoListH.list___mul___list_int_3 l #[v] k x u (by simp [Builtin.List.listFitsIndex]; omega) (by simp; omega) (by simp [Builtin.List.listTooLong, sizeLine]; omega))
        ⟨hl, ?_⟩⟩)
  have e : List.foldl (fun x1 x2 => x1 ++ x2) (#[] : Array Value) (List.replicate (if (#[v] : Array Value).isEmpty = true then 0 else x.toNat) #[v]) = (List.replicate x.toNat v).toArray := by
    rw [if_neg (by simp), foldl_replicate]; simp
  rw [e]
  exact h

theorem RdAll.replicate {Φ : Fz} {v : Value} {d : D} (h : Rd Φ v d) : ∀ k : Nat, RdAll Φ (List.replicate k v) (List.replicate k d)
  | 0 => .nil
  | k + 1 => .cons h (RdAll.replicate h k)

set_option tactic.hygienic true in
theorem SL_rep {x y : Expr} {e m : E} {p pos : Pos} (hx : SE X n sc names x e) (hy : SE X n sc names y m) (hs : notStar x = true) : SL X n sc names (.BinOp (.List [x] p) .Mult y pos) (.rep e m) := by
  intro env A s Φ ρ σ Q he eo hroom ok F h
  refine wpAny_BinOp (wpAny_List ?_)
  have h1 : mEvals X n [e] ρ σ (fun ds σ => ∃ d, ds = [d] ∧ mEval X n m ρ σ fun k σ => k.onInt fun i => 0 ≤ i ∧ i ≤ 2 ^ 20 ∧ Q (List.replicate i.toNat d) σ) := by
    simp only [mEvals, List.cons.injEq, and_true, exists_eq_left']; exact h
  refine wpAny_mono (SEs_cons hx SEs_nil hs env A s Φ ρ σ _ p he eo hroom ok F h1) ?_ fun xx xx h => h.elim
  rintro vs s₁ ⟨_, σ₁, Φ₁, st, r, d, rfl, q⟩
  cases r with
  | cons r1 r2 =>
    cases r2
    rename_i v
    refine ⟨by simp [sizeLine], ?_⟩
    have st1 := st.trans (push_step st.ok { cls := .type "list", data := .seq [v].toArray })
    refine wpAny_mono (hy env A _ Φ₁ ρ σ₁ _ he eo hroom st1.ok (F.step st1) q) ?_ fun xx xx h => h.elim
    rintro w s₂ ⟨_, σ₂, Φ₂, st₂, r₂, q₂⟩
    obtain ⟨i, rfl, q₂⟩ := D.int_of q₂
    cases r₂ with
    | int _ t =>
      have hl : s₂.heap.get? s₁.heap.objs.size = some { cls := .type "list", dict := none, data := .seq #[v] 0, slots := #[] } := st₂.keep _ _ (Heap.get?_push_size _ rfl) (st.ok.freshS (size_none _))
      refine mul_one hl (by omega) (by omega) (by omega) ?_
      have hn := size_none s₂.heap
      refine made_list (st1.trans st₂) (push_step st₂.ok _) hn ⟨_, Heap.get?_push_size _ rfl⟩ ?_ q₂.2.2
      simpa using RdAll.replicate (r1.mono st₂.mono) i.toNat

theorem cat_lists {s : Shared} {A : Around} {l b : Addr} {vs ws : Array Value} {Q : Value → Shared → Prop} {prog : Program} {w : World} {E : Value → Shared → Prop} (hl : s.heap.IsList l vs) (hb : s.heap.IsList b ws)
    (h : Q (.ref s.heap.objs.size) { s with heap := s.heap.push { cls := .type "list", data := .seq (vs ++ ws) } }) (hsz : vs.size + ws.size ≤ sizeLine) :
    wpAny (model prog w) A (binaryOp .Add (.ref l) (.ref b)) Q E s := by
  obtain ⟨⟨cls, dd, data, sl⟩, ho, hc, n, hd⟩ := id hl
  obtain ⟨⟨cls2, dd2, data2, sl2⟩, ho2, hc2, n2, hd2⟩ := id hb
  simp only at hc hd hc2 hd2
  subst hc hd hc2 hd2
  exact concat_meets ⟨_, ho, rfl⟩ ⟨_, ho2, rfl⟩ noFill_list_add seq_list_add PySem.F.slot_list_add PySem.F.entry_list_add (PySem.F.args_list_add_2 _ _) (list_addW l b vs ws n n2 dd dd2 sl sl2 hsz) ⟨ho, ho2, h⟩

theorem SL_cat {x y : Expr} {a b : E} {pos : Pos} (hx : SE X n sc names x a) (hy : SE X n sc names y b) : SL X n sc names (.BinOp x .Add y pos) (.cat a b) := by
  intro env A s Φ ρ σ Q he eo hroom ok F h
  refine wpAny_BinOp (wpAny_mono (hx env A s Φ ρ σ _ he eo hroom ok F h) ?_ fun xx xx h => h.elim)
  rintro v s₁ ⟨d, σ₁, Φ₁, st, r, q⟩
  refine wpAny_mono (hy env A s₁ Φ₁ ρ σ₁ _ he eo hroom st.ok (F.step st) q) ?_ fun xx xx h => h.elim
  rintro w s₂ ⟨_, σ₂, Φ₂, st₂, r₂, q₂⟩
  obtain ⟨ds, rfl, q₃⟩ := D.lst_of q₂
  clear q₂
  obtain ⟨es, rfl, q₂⟩ := D.lst_of q₃
  have r' := r.mono st₂.mono
  obtain ⟨l, rfl⟩ := r'.lst_ref
  obtain ⟨l', rfl⟩ := r₂.lst_ref
  obtain ⟨vs, hl, ra, _⟩ := r'.isList st₂.ok
  obtain ⟨ws, hl', rb, _⟩ := r₂.isList st₂.ok
  have e1 := ra.length
  have e2 := rb.length
  simp only [Array.length_toList] at e1 e2
  have hlen := q₂.1
  simp only [List.length_append] at hlen
  refine cat_lists hl hl' ?_ (by unfold sizeLine; omega)
  refine made_list (st.trans st₂) (push_step st₂.ok _) (size_none _) ⟨_, Heap.get?_push_size _ rfl⟩ ?_ q₂.2
  simpa using ra.append rb

theorem SL_upto {x y : Expr} {a h : E} {p pos : Pos} (hx : SE X n sc names x a) (hy : SE X n sc names y h) : SL X n sc names (.Subscript x (.Slice none (some y) none p) pos) (.upto a h) := by
  intro env A s Φ ρ σ Q he eo hroom ok F h
  refine Subscript_ (wpAny_mono (hx env A s Φ ρ σ _ he eo hroom ok F h) ?_ fun xx xx h => h.elim)
  rintro v s₁ ⟨d, σ₁, Φ₁, st, r, q⟩
  refine wpAny_Slice ?_
  rw [evalPart_none, evalPart_some]
  refine wpAny_pure ?_
  refine wpAny_mono (hy env A s₁ Φ₁ ρ σ₁ _ he eo hroom st.ok (F.step st) q) ?_ fun xx xx h => h.elim
  rintro w s₂ ⟨_, σ₂, Φ₂, st₂, r₂, q₂⟩
  obtain ⟨ds, rfl, q₃⟩ := D.lst_of q₂
  clear q₂
  obtain ⟨k, rfl, q₂⟩ := D.int_of q₃
  refine wpAny_pure ?_
  have r' := r.mono st₂.mono
  obtain ⟨l, rfl⟩ := r'.lst_ref
  obtain ⟨vs, hl, ra, _⟩ := r'.isList st₂.ok
  cases r₂ with
  | int _ t =>
    have e1 := ra.length
    simp only [Array.length_toList] at e1
    have st₃ := push_step st₂.ok { cls := .type "slice", data := .fields #[.none, .int k t, .none] }
    have hk : k = (k.toNat : Int) := by omega
    refine tail_any (Heap.IsList.typeIs (s := { s₂ with heap := s₂.heap.push { cls := .type "slice", data := .fields #[.none, .int k t, .none] } }) (hl.push _)) list_getitem_lookup
      (wpAny_getItem_list_slice (hl.push _) (Heap.IsSliceOf.new ..) .none (.int k t) .none (by simp) ?_ (by unfold sizeLine; omega)) rfl
    refine made_list ((st.trans st₂).trans st₃) (push_step st₃.ok _) (size_none _) ⟨_, Heap.get?_push_size _ rfl⟩ ?_ q₂.2.2
    have ek : slicePick vs none (some k) none = (vs.toList.take k.toNat).toArray := by rw [← slicePick_upto', ← hk]
    rw [ek]
    simpa using ra.take k.toNat

theorem SL_from {x y : Expr} {a h : E} {p pos : Pos} (hx : SE X n sc names x a) (hy : SE X n sc names y h) : SL X n sc names (.Subscript x (.Slice (some y) none none p) pos) (.from_ a h) := by
  intro env A s Φ ρ σ Q he eo hroom ok F h
  refine Subscript_ (wpAny_mono (hx env A s Φ ρ σ _ he eo hroom ok F h) ?_ fun xx xx h => h.elim)
  rintro v s₁ ⟨d, σ₁, Φ₁, st, r, q⟩
  refine wpAny_Slice ?_
  rw [evalPart_none, evalPart_some]
  refine wpAny_mono (hy env A s₁ Φ₁ ρ σ₁ _ he eo hroom st.ok (F.step st) q) ?_ fun xx xx h => h.elim
  rintro w s₂ ⟨_, σ₂, Φ₂, st₂, r₂, q₂⟩
  obtain ⟨ds, rfl, q₃⟩ := D.lst_of q₂
  clear q₂
  obtain ⟨k, rfl, q₂⟩ := D.int_of q₃
  refine wpAny_pure (wpAny_pure ?_)
  have r' := r.mono st₂.mono
  obtain ⟨l, rfl⟩ := r'.lst_ref
  obtain ⟨vs, hl, ra, _⟩ := r'.isList st₂.ok
  cases r₂ with
  | int _ t =>
    have e1 := ra.length
    simp only [Array.length_toList] at e1
    have st₃ := push_step st₂.ok { cls := .type "slice", data := .fields #[.int k t, .none, .none] }
    have hk : k = (k.toNat : Int) := by omega
    refine tail_any (Heap.IsList.typeIs (s := { s₂ with heap := s₂.heap.push { cls := .type "slice", data := .fields #[.int k t, .none, .none] } }) (hl.push _)) list_getitem_lookup
      (wpAny_getItem_list_slice (hl.push _) (Heap.IsSliceOf.new ..) (.int k t) .none .none (by simp) ?_ (by unfold sizeLine; omega)) rfl
    refine made_list ((st.trans st₂).trans st₃) (push_step st₃.ok _) (size_none _) ⟨_, Heap.get?_push_size _ rfl⟩ ?_ q₂.2.2
    have ek : slicePick vs (some k) none none = (vs.toList.drop k.toNat).toArray := by rw [← slicePick_from', ← hk]
    rw [ek]
    simpa using ra.drop k.toNat
end
theorem Ok.sameBut {g : Heap} {σ : Sg} {Φ : Fz} {h h' : Heap} {a : Addr} (ok : Ok g σ Φ h) (hs : Heap.SameBut a h h') (h1 : g.get? a = none) (h2 : Φ a = none) (h3 : σ a = none) : Ok g σ Φ h' := by
  have k : ∀ b o, b ≠ a → h.get? b = some o → h'.get? b = some o := fun b o hb e => (hs.2 b hb).trans e
  refine ⟨fun b o e => ⟨k b o (fun q => ?_) (ok.base b o e).1, (ok.base b o e).2⟩, fun b o e => ⟨k b o (fun q => ?_) (ok.frz b o e).1, (ok.frz b o e).2⟩, fun b t e => (ok.trk b t e).mono (Fz.le.refl _) fun o ho => k b o (fun q => ?_) ho⟩
  · subst q; rw [h1] at e; cases e
  · subst q; rw [h2] at e; cases e
  · subst q; rw [h3] at e; cases e

theorem names_inj {names : List Str} (nd : names.Nodup) {i j : Nat} {x : Str} (hi : names[i]? = some x) (hj : names[j]? = some x) : i = j := by
  obtain ⟨h1, e1⟩ := List.getElem?_eq_some_iff.mp hi
  obtain ⟨h2, e2⟩ := List.getElem?_eq_some_iff.mp hj
  have pw := List.pairwise_iff_getElem.mp nd
  rcases Nat.lt_trichotomy i j with h | h | h
  · exact absurd (e1.trans e2.symm) (pw i j h1 h2 h)
  · exact h
  · exact absurd (e2.trans e1.symm) (pw j i h2 h1 h)

theorem getD_set_ne {ρ : List MV} {i j : Nat} {mv : MV} (h : i ≠ j) : (ρ.set i mv).getD j .unb = ρ.getD j .unb := by
  simp [List.getD, h]
theorem getD_set_self {ρ : List MV} {i : Nat} {mv : MV} (h : i < ρ.length) : (ρ.set i mv).getD i .unb = mv := by
  simp [List.getD, h]

noncomputable def Fresh (g : Heap) (env : Env) (σ : Sg) (Φ : Fz) (μ : Nat → Option Addr) (i : Nat) (a : Addr) : Prop :=
  σ a = none ∧ Φ a = none ∧ g.get? a = none ∧ a ≠ env.locals ∧ (∀ n, (n, a) ∉ env.cells) ∧ ∀ j, j ≠ i → μ j ≠ some a

theorem FrameX.put {g : Heap} {env : Env} {names : List Str} {ρ : List MV} {σ : Sg} {Φ : Fz} {h h' : Heap} {m cm : Str → Option Value} {μ : Nat → Option Addr} (F : FrameX g env names ρ σ Φ h m cm μ)
    {i : Nat} {x : Str} {v : Value} {mv : MV} {μi : Option Addr} {m' cm' : Str → Option Value} {c : Addr} (hi : names[i]? = some x) (hown : c = env.locals ∨ ∃ n, (n, c) ∈ env.cells)
    (hs : Heap.SameBut c h h') (hns : h'.Ns env.locals m') (hcell : ∀ n c, env.cells.lookup n = some c → h'.IsCell c (cm' n)) (hlive : ∃ o, h'.get? c = some o)
    (hx : look env m' cm' x = some v) (hy : ∀ y, y ≠ x → look env m' cm' y = look env m cm y)
    (hv : VRel Φ h' (some v) μi mv) (hμ : ∀ a, μi = some a → Fresh g env σ Φ μ i a ∧ ∃ o, h'.get? a = some o) :
    FrameX g env names (ρ.set i mv) σ Φ h' m' cm' (fun j => if j = i then μi else μ j) := by
  have hlt : i < ρ.length := by
    rw [F.len]
    exact (List.getElem?_eq_some_iff.mp hi).1
  have kp : ∀ b o, b ≠ c → h.get? b = some o → h'.get? b = some o := fun b o hb e => (hs.2 b hb).trans e
  have offc' : ∀ j a, μ j = some a → a ≠ c := fun j a e q => by
    subst q
    rcases hown with q | ⟨n, q⟩
    · exact (F.offm j _ e).1 q
    · exact (F.offm j _ e).2 n q
  exact {
    nd := F.nd
    len := by rw [List.length_set]; exact F.len
    ns := hns
    cell := hcell
    cellsIn := fun n b hb => by
      obtain ⟨o, ho⟩ := F.cellsIn n b hb
      by_cases q : b = c
      · subst q; exact hlive
      · exact ⟨o, kp b o q ho⟩
    hasCell := F.hasCell
    apart := F.apart
    offc := F.offc
    priv := fun a ha => by
      rcases ha with ha | ha | ⟨j, ha⟩
      · exact F.priv a (.inl ha)
      · exact F.priv a (.inr (.inl ha))
      · by_cases q : j = i
        · simp only [if_pos q] at ha
          obtain ⟨⟨h1, h2, h3, _⟩, _⟩ := hμ a ha
          exact ⟨h1, h2, h3⟩
        · simp only [if_neg q] at ha
          exact F.priv a (.inr (.inr ⟨j, ha⟩))
    vars := fun j y hj hacc => by
      by_cases q : j = i
      · subst q
        have e : y = x := by rw [hi] at hj; cases hj; rfl
        subst e
        simp only [if_true, hx, getD_set_self hlt]
        exact hv
      · have hne : y ≠ x := fun e => q (names_inj F.nd (e ▸ hj) hi)
        simp only [hy y hne, if_neg q, getD_set_ne (Ne.symm q)]
        exact (F.vars j y hj hacc).mono (Fz.le.refl _) fun a o e ho => kp a o (offc' j a e) ho
    inj := fun j k a ej ek => by
      by_cases qj : j = i <;> by_cases qk : k = i
      · rw [qj, qk]
      · simp only [if_pos qj] at ej
        simp only [if_neg qk] at ek
        exact absurd ek ((hμ a ej).1.2.2.2.2.2 k qk)
      · simp only [if_neg qj] at ej
        simp only [if_pos qk] at ek
        exact absurd ej ((hμ a ek).1.2.2.2.2.2 j qj)
      · simp only [if_neg qj] at ej
        simp only [if_neg qk] at ek
        exact F.inj j k a ej ek
    offm := fun j a e => by
      by_cases q : j = i
      · simp only [if_pos q] at e
        obtain ⟨⟨_, _, _, h4, h5, _⟩, _⟩ := hμ a e
        exact ⟨h4, h5⟩
      · simp only [if_neg q] at e
        exact F.offm j a e
    live := fun j a e => by
      by_cases q : j = i
      · simp only [if_pos q] at e
        exact (hμ a e).2
      · simp only [if_neg q] at e
        obtain ⟨o, ho⟩ := F.live j a e
        exact ⟨o, kp a o (offc' j a e) ho⟩ }

structure Inv (X : Cx) (env : Env) (names : List Str) (B Φ₀ : Fz) (ρ : List MV) (σ : Sg) (Φ : Fz) (h : Heap) : Prop where
  ok : Ok X.g σ Φ h
  mono0 : Fz.le Φ₀ Φ
  prot : ∀ b o, B b = some o → h.get? b = some o ∧ σ b = none
  priv : ∀ b, B b ≠ none → Φ b ≠ none → Φ₀ b ≠ none
  fr : ∃ m cm μ, FrameX X.g env names ρ σ Φ h m cm μ ∧ ∀ a, Own env μ a → B a = none

theorem Inv.frame {X : Cx} {env : Env} {names : List Str} {B Φ₀ : Fz} {ρ : List MV} {σ : Sg} {Φ : Fz} {h : Heap} (I : Inv X env names B Φ₀ ρ σ Φ h) : Frame X.g env names ρ σ Φ h :=
  let ⟨m, cm, μ, F, _⟩ := I.fr; ⟨m, cm, μ, F⟩

theorem Inv.step {X : Cx} {env : Env} {names : List Str} {B Φ₀ : Fz} {ρ : List MV} {σ σ' : Sg} {Φ Φ' : Fz} {s s' : Shared} (I : Inv X env names B Φ₀ ρ σ Φ s.heap) (x : Step X.g s s' Φ Φ' σ σ') :
    Inv X env names B Φ₀ ρ σ' Φ' s'.heap := by
  obtain ⟨m, cm, μ, F, hB⟩ := I.fr
  refine ⟨x.ok, I.mono0.trans x.mono, fun b o e => ?_, fun b hb hf => ?_, m, cm, μ, F.step x, hB⟩
  · obtain ⟨h1, h2⟩ := I.prot b o e
    exact ⟨x.keep b o h1 h2, x.outS h1 h2⟩
  · cases e : B b with
    | none => exact absurd e hb
    | some o =>
      obtain ⟨h1, h2⟩ := I.prot b o e
      by_cases hf' : Φ b = none
      · exact absurd (x.outF h1 h2 hf') hf
      · exact I.priv b hb hf'

section
variable {X : Cx} {n : Nat} {sc : Scope} {names : List Str} {env : Env} {B Φ₀ : Fz} {ρ : List MV} {σ : Sg} {Φ : Fz} {s : Shared} {A : Around}

theorem look_put {m cm : Str → Option Value} {x : Str} {v : Value} (hk : env.kindOf x = some .local) : look env (fun y => if y = x then some v else m y) cm x = some v := by
  simp [look, hk]
theorem look_put_ne {m cm : Str → Option Value} {x y : Str} {v : Value} (h : y ≠ x) : look env (fun z => if z = x then some v else m z) cm y = look env m cm y := by
  simp [look, h]
theorem look_putC {m cm : Str → Option Value} {x : Str} {v : Value} (hk : env.kindOf x = some .cell) : look env m (fun y => if y = x then some v else cm y) x = some v := by
  simp [look, hk]
theorem look_putC_ne {m cm : Str → Option Value} {x y : Str} {v : Value} (h : y ≠ x) : look env m (fun z => if z = x then some v else cm z) y = look env m cm y := by
  simp [look, h]

theorem Inv.store (I : Inv X env names B Φ₀ ρ σ Φ s.heap) (eo : EnvOk env) {i : Nat} {x : Str} {v : Value} {mv : MV} {K : Unit → Shared → Prop} (hi : names[i]? = some x)
    (hk : env.kindOf x = some .local ∨ env.kindOf x = some .cell) {m cm : Str → Option Value} {μ : Nat → Option Addr} (F : FrameX X.g env names ρ σ Φ s.heap m cm μ) (hB : ∀ a, Own env μ a → B a = none)
    {μi : Option Addr} (hv1 : ∀ h', (∀ b o, (b ≠ env.locals ∧ ∀ n, (n, b) ∉ env.cells) → s.heap.get? b = some o → h'.get? b = some o) → VRel Φ h' (some v) μi mv)
    (hv2 : ∀ a, μi = some a → Fresh X.g env σ Φ μ i a ∧ B a = none ∧ ∃ o, s.heap.get? a = some o)
    (h : ∀ s', (∃ h' tk, s' = { s with heap := h', toks := tk }) → Inv X env names B Φ₀ (ρ.set i mv) σ Φ s'.heap → K () s') : wpAny (model X.prog X.w) A (storeName env x v) K No s := by
  have fin : ∀ c h' tk m' cm', (c = env.locals ∨ ∃ n, (n, c) ∈ env.cells) → Heap.SameBut c s.heap h' → h'.Ns env.locals m' → (∀ n c, env.cells.lookup n = some c → h'.IsCell c (cm' n)) → (∃ o, h'.get? c = some o) →
      look env m' cm' x = some v → (∀ y, y ≠ x → look env m' cm' y = look env m cm y) → K () { s with heap := h', toks := tk } := by
    intro c h' tk m' cm' hown hs hns hcell hlive hx hy
    have hown' : Own env μ c := by
      rcases hown with q | q
      · exact .inl q
      · exact .inr (.inl q)
    have p := F.priv c hown'
    have hoff : ∀ a, μi = some a → a ≠ c := fun a e q => by
      obtain ⟨⟨_, _, _, h4, h5, _⟩, _⟩ := hv2 a e
      rcases hown with r | ⟨n, r⟩
      · exact h4 (q.trans r)
      · exact h5 n (q ▸ r)
    refine h _ ⟨h', tk, rfl⟩ ⟨I.ok.sameBut hs p.2.2 p.2.1 p.1, I.mono0, fun b o e => ?_, I.priv, m', cm', _, F.put hi hown hs hns hcell hlive hx hy (hv1 h' fun b o hb e => (hs.2 b fun q => ?_).trans e) fun a e => ⟨(hv2 a e).1, ?_⟩, ?_⟩
    · obtain ⟨h1, h2⟩ := I.prot b o e
      refine ⟨(hs.2 b fun q => ?_).trans h1, h2⟩
      rw [q, hB c hown'] at e; cases e
    · subst q
      rcases hown with r | ⟨n, r⟩
      · exact hb.1 r
      · exact hb.2 n r
    · obtain ⟨_, _, o, ho⟩ := hv2 a e
      exact ⟨o, (hs.2 a (hoff a e)).trans ho⟩
    · intro a ha
      rcases ha with ha | ha | ⟨j, ha⟩
      · exact hB a (.inl ha)
      · exact hB a (.inr (.inl ha))
      · by_cases q : j = i
        · simp only [if_pos q] at ha; exact (hv2 a ha).2.1
        · simp only [if_neg q] at ha; exact hB a (.inr (.inr ⟨j, ha⟩))
  rcases hk with hk | hk
  · refine wpAny_storeName_local hk F.ns (fun h' hn hs => ?_) (by rw [eo.kind]; rfl)
    refine fin env.locals h' _ _ cm (.inl rfl) hs hn (fun n c hc => (F.cell n c hc).sameBut hs (F.offc n c (mem_of_lookup hc))) ?_ (look_put hk) fun y hy => look_put_ne hy
    obtain ⟨o, _, _, ho, _⟩ := hn
    exact ⟨o, ho⟩
  · obtain ⟨c, hc⟩ := Option.isSome_iff_exists.mp (F.hasCell x (.inl hk))
    refine wpAny_storeName_cell eo.kind hk hc (F.cell x c hc) fun h' hc' hs => ?_
    refine fin c h' s.toks m (fun y => if y = x then some v else cm y) (.inr ⟨x, mem_of_lookup hc⟩) hs (F.ns.sameBut hs (Ne.symm (F.offc x c (mem_of_lookup hc)))) (fun n b hb => ?_) ?_ (look_putC hk) fun y hy => look_putC_ne hy
    · by_cases q : n = x
      · subst q; rw [hc] at hb; cases hb; simpa using hc'
      · rw [if_neg q]
        exact (F.cell n b hb).sameBut hs fun e => q (name_of_addr F.apart (mem_of_lookup hb) (e ▸ mem_of_lookup hc))
    · obtain ⟨o, ho, _⟩ := hc'
      exact ⟨o, ho⟩

theorem Inv.storeV (I : Inv X env names B Φ₀ ρ σ Φ s.heap) (eo : EnvOk env) {i : Nat} {x : Str} {v : Value} {d : D} {K : Unit → Shared → Prop} (hi : names[i]? = some x)
    (hk : env.kindOf x = some .local ∨ env.kindOf x = some .cell) (hv : Rd Φ v d)
    (h : ∀ s', (∃ h' tk, s' = { s with heap := h', toks := tk }) → Inv X env names B Φ₀ (ρ.set i (.val d)) σ Φ s'.heap → K () s') : wpAny (model X.prog X.w) A (storeName env x v) K No s := by
  obtain ⟨m, cm, μ, F, hB⟩ := I.fr
  exact I.store (mv := .val d) (μi := none) eo hi hk F hB (fun xx xx => ⟨rfl, v, rfl, hv⟩) (fun xx e => by cases e) h

theorem Inv.storeM (I : Inv X env names B Φ₀ ρ σ Φ s.heap) (eo : EnvOk env) {i : Nat} {x : Str} {a : Addr} {vs : Array Value} {ds : List D} {K : Unit → Shared → Prop} (hi : names[i]? = some x)
    (hk : env.kindOf x = some .local ∨ env.kindOf x = some .cell) (hl : s.heap.PlainList a vs) (hr : RdAll Φ vs.toList ds)
    {m cm : Str → Option Value} {μ : Nat → Option Addr} (F : FrameX X.g env names ρ σ Φ s.heap m cm μ) (hB : ∀ a, Own env μ a → B a = none) (hf : Fresh X.g env σ Φ μ i a) (hBa : B a = none)
    (h : ∀ s', (∃ h' tk, s' = { s with heap := h', toks := tk }) → Inv X env names B Φ₀ (ρ.set i (.mt ds)) σ Φ s'.heap → K () s') : wpAny (model X.prog X.w) A (storeName env x (.ref a)) K No s := by
  refine I.store (mv := .mt ds) (μi := some a) eo hi hk F hB (fun h' k => ⟨a, vs, rfl, rfl, hl.at fun o e => k a o ⟨hf.2.2.2.1, hf.2.2.2.2.1⟩ e, hr⟩) (fun b e => ?_) h
  cases e
  obtain ⟨k, ho⟩ := hl
  exact ⟨hf, hBa, _, ho⟩
end
theorem FrameX.upd {g : Heap} {env : Env} {names : List Str} {ρ : List MV} {σ : Sg} {Φ : Fz} {h h' : Heap} {m cm : Str → Option Value} {μ : Nat → Option Addr} (F : FrameX g env names ρ σ Φ h m cm μ)
    {i : Nat} {x : Str} {a : Addr} {vs : Array Value} {ds : List D} (hi : names[i]? = some x) (hμ : μ i = some a) (hs : Heap.SameBut a h h') (hl : h'.PlainList a vs) (hr : RdAll Φ vs.toList ds) :
    FrameX g env names (ρ.set i (.mt ds)) σ Φ h' m cm μ := by
  have hlt : i < ρ.length := by
    rw [F.len]
    exact (List.getElem?_eq_some_iff.mp hi).1
  have kp : ∀ b o, b ≠ a → h.get? b = some o → h'.get? b = some o := fun b o hb e => (hs.2 b hb).trans e
  have off := F.offm i a hμ
  exact {
    nd := F.nd
    len := by rw [List.length_set]; exact F.len
    ns := F.ns.at' fun o e => kp _ o (Ne.symm off.1) e
    cell := fun n c hc => let ⟨o, ho, hd⟩ := F.cell n c hc; ⟨o, kp c o (fun q => off.2 n (q ▸ mem_of_lookup hc)) ho, hd⟩
    cellsIn := fun n c hc => let ⟨o, ho⟩ := F.cellsIn n c hc; ⟨o, kp c o (fun q => off.2 n (q ▸ hc)) ho⟩
    hasCell := F.hasCell
    apart := F.apart
    offc := F.offc
    priv := F.priv
    vars := fun j y hj hacc => by
      by_cases q : j = i
      · subst q
        rw [getD_set_self hlt]
        have old := F.vars j y hj hacc
        cases e : ρ.getD j .unb with
        | unb => rw [e] at old; rw [show μ j = none from old] at hμ; cases hμ
        | val d => rw [e] at old; rw [old.1] at hμ; cases hμ
        | pin v d => rw [e] at old; rw [old.1] at hμ; cases hμ
        | mt es =>
          rw [e] at old
          obtain ⟨a', vs', h1, h2, _⟩ := old
          have : a' = a := by rw [hμ] at h1; cases h1; rfl
          subst this
          exact ⟨a', vs, hμ, h2, hl, hr⟩
      · rw [getD_set_ne (Ne.symm q)]
        exact (F.vars j y hj hacc).mono (Fz.le.refl _) fun b o e ho => kp b o (fun z => q (F.inj j i a (z ▸ e) hμ)) ho
    inj := F.inj
    offm := F.offm
    live := fun j b e => by
      by_cases q : b = a
      · subst q; obtain ⟨k, hk⟩ := hl; exact ⟨_, hk⟩
      · obtain ⟨o, ho⟩ := F.live j b e; exact ⟨o, kp b o q ho⟩ }

section
variable {X : Cx} {n : Nat} {sc : Scope} {names : List Str} {env : Env} {B Φ₀ : Fz} {ρ : List MV} {σ : Sg} {Φ : Fz} {s : Shared} {A : Around}

theorem Inv.upd {h h' : Heap} (I : Inv X env names B Φ₀ ρ σ Φ h) {m cm : Str → Option Value} {μ : Nat → Option Addr} (F : FrameX X.g env names ρ σ Φ h m cm μ) (hB : ∀ a, Own env μ a → B a = none)
    {i : Nat} {x : Str} {a : Addr} {vs : Array Value} {ds : List D} (hi : names[i]? = some x) (hμ : μ i = some a) (hs : Heap.SameBut a h h') (hl : h'.PlainList a vs) (hr : RdAll Φ vs.toList ds) :
    Inv X env names B Φ₀ (ρ.set i (.mt ds)) σ Φ h' := by
  have p := F.priv a (.inr (.inr ⟨i, hμ⟩))
  refine ⟨I.ok.sameBut hs p.2.2 p.2.1 p.1, I.mono0, fun b o e => ?_, I.priv, m, cm, μ, F.upd hi hμ hs hl hr, hB⟩
  obtain ⟨h1, h2⟩ := I.prot b o e
  refine ⟨(hs.2 b fun q => ?_).trans h1, h2⟩
  rw [q, hB a (.inr (.inr ⟨i, hμ⟩))] at e; cases e

theorem FrameX.own (F : FrameX X.g env names ρ σ Φ s.heap m cm μ) {i : Nat} {x : Str} {ds : List D} (hi : names[i]? = some x) (ha : acc env x) (hm : ρ.getD i .unb = .mt ds) :
    ∃ a vs, μ i = some a ∧ look env m cm x = some (.ref a) ∧ s.heap.PlainList a vs ∧ RdAll Φ vs.toList ds := by
  have := F.vars i x hi ha
  rw [hm] at this
  exact this

noncomputable def FlRel (Φ : Fz) : Flow → Fl → Prop
  | .next, .next => True
  | .ret v, .ret d => Rd Φ v d
  | _, _ => False

noncomputable def Ex (X : Cx) (env : Env) (names : List Str) (B Φ₀ : Fz) (s : Shared) (Φ : Fz) (Q : Fl → List MV → Sg → Prop) (f : Flow) (s' : Shared) : Prop :=
  ∃ fl ρ' σ' Φ', (∃ h' tk, s' = { s with heap := h', toks := tk }) ∧ Inv X env names B Φ₀ ρ' σ' Φ' s'.heap ∧ Fz.le Φ Φ' ∧ FlRel Φ' f fl ∧ Q fl ρ' σ'

noncomputable def SS (X : Cx) (n : Nat) (sc : Scope) (names : List Str) (st : Stmt) (m : S) : Prop :=
  ∀ env A s B Φ₀ ρ σ Φ Q, env.scope = sc → EnvOk env → Room X n A → Inv X env names B Φ₀ ρ σ Φ s.heap → mExec X n m ρ σ Q → wpAny (model X.prog X.w) A (exec st env) (Ex X env names B Φ₀ s Φ Q) No s
noncomputable def SSs (X : Cx) (n : Nat) (sc : Scope) (names : List Str) (sts : List Stmt) (ms : List S) : Prop :=
  ∀ env A s B Φ₀ ρ σ Φ Q, env.scope = sc → EnvOk env → Room X n A → Inv X env names B Φ₀ ρ σ Φ s.heap → mExecs X n ms ρ σ Q → wpAny (model X.prog X.w) A (execs sts env) (Ex X env names B Φ₀ s Φ Q) No s

theorem SSs_nil : SSs X n sc names [] [] := fun xx xx s xx xx xx xx xx xx xx xx xx I h => wpAny_execs_nil ⟨.next, _, _, _, ⟨s.heap, s.toks, rfl⟩, I, Fz.le.refl _, trivial, h⟩

theorem SSs_cons {st : Stmt} {sts : List Stmt} {m : S} {ms : List S} (h1 : SS X n sc names st m) (h2 : SSs X n sc names sts ms) : SSs X n sc names (st :: sts) (m :: ms) := by
  intro env A s B Φ₀ ρ σ Φ Q he eo hr I h
  simp only [mExecs] at h
  refine wpAny_execs_cons (wpAny_mono (h1 env A s B Φ₀ ρ σ Φ _ he eo hr I h) ?_ fun xx xx h => h.elim)
  rintro f s₁ ⟨fl, ρ₁, σ₁, Φ₁, ⟨h', tk, rfl⟩, I₁, le₁, fr, q⟩
  cases fl with
  | next =>
    cases f <;> simp only [FlRel] at fr
    refine wpAny_mono (h2 env A _ B Φ₀ ρ₁ σ₁ Φ₁ _ he eo hr I₁ q) ?_ fun xx xx h => h.elim
    rintro f s₂ ⟨fl, ρ₂, σ₂, Φ₂, ⟨h'', tk', rfl⟩, I₂, le₂, fr, q⟩
    exact ⟨fl, ρ₂, σ₂, Φ₂, ⟨h'', tk', rfl⟩, I₂, le₁.trans le₂, fr, q⟩
  | ret d =>
    cases f <;> simp only [FlRel] at fr
    exact ⟨.ret d, ρ₁, σ₁, Φ₁, ⟨h', tk, rfl⟩, I₁, le₁, fr, q⟩

theorem Inv.freeze {h : Heap} (I : Inv X env names B Φ₀ ρ σ Φ h) {i : Nat} {x : Str} {ds : List D} (hi : names[i]? = some x) (ha : acc env x) (hm : ρ.getD i .unb = .mt ds) :
    ∃ Φ', Fz.le Φ Φ' ∧ Inv X env names B Φ₀ (ρ.set i (.val (.lst ds))) σ Φ' h := by
  obtain ⟨m, cm, μ, F, hB⟩ := I.fr
  have hlt : i < ρ.length := by
    rw [F.len]
    exact (List.getElem?_eq_some_iff.mp hi).1
  have := F.vars i x hi ha
  rw [hm] at this
  obtain ⟨a, vs, hμ, hlk, ⟨k, hl⟩, hr⟩ := this
  have p := F.priv a (.inr (.inr ⟨i, hμ⟩))
  have le := Fz.le_put (Φ := Φ) (a := a) (o := { cls := .type "list", data := .seq vs k }) p.2.1
  have ok' : Ok X.g σ (Fz.put Φ a { cls := .type "list", data := .seq vs k }) h := I.ok.freeze hl p.1 p.2.1
  refine ⟨_, le, ok', I.mono0.trans le, I.prot, fun b hb hf => ?_, m, cm, fun j => if j = i then none else μ j, ?_, fun b hb => ?_⟩
  · by_cases q : b = a
    · subst q; exact absurd (hB b (.inr (.inr ⟨i, hμ⟩))) hb
    · rw [Fz.put_ne q] at hf; exact I.priv b hb hf
  · exact {
      nd := F.nd
      len := by rw [List.length_set]; exact F.len
      ns := F.ns
      cell := F.cell
      cellsIn := F.cellsIn
      hasCell := F.hasCell
      apart := F.apart
      offc := F.offc
      priv := fun b hb => by
        have hb' : Own env μ b ∧ b ≠ a := by
          rcases hb with hb | ⟨n, hb⟩ | ⟨j, hb⟩
          · exact ⟨.inl hb, fun q => (F.offm i a hμ).1 (q ▸ hb)⟩
          · exact ⟨.inr (.inl ⟨n, hb⟩), fun q => (F.offm i a hμ).2 n (q ▸ hb)⟩
          · by_cases q : j = i
            · simp only [if_pos q] at hb; cases hb
            · simp only [if_neg q] at hb
              exact ⟨.inr (.inr ⟨j, hb⟩), fun z => q (F.inj j i a (z ▸ hb) hμ)⟩
        have p := F.priv b hb'.1
        exact ⟨p.1, by rw [Fz.put_ne hb'.2]; exact p.2.1, p.2.2⟩
      vars := fun j y hj hacc => by
        by_cases q : j = i
        · subst q
          have e : y = x := by rw [hi] at hj; cases hj; rfl
          subst e
          simp only [if_true]
          rw [getD_set_self hlt]
          exact ⟨rfl, _, hlk, .lst (Fz.put_self _ _ _) rfl rfl rfl (hr.mono le)⟩
        · simp only [if_neg q]
          rw [getD_set_ne (Ne.symm q)]
          exact (F.vars j y hj hacc).mono le fun xx xx xx e => e
      inj := fun j l b ej el => by
        by_cases q : j = i
        · simp only [if_pos q] at ej; cases ej
        · by_cases q' : l = i
          · simp only [if_pos q'] at el; cases el
          · simp only [if_neg q] at ej
            simp only [if_neg q'] at el
            exact F.inj j l b ej el
      offm := fun j b e => by
        by_cases q : j = i
        · simp only [if_pos q] at e; cases e
        · simp only [if_neg q] at e; exact F.offm j b e
      live := fun j b e => by
        by_cases q : j = i
        · simp only [if_pos q] at e; cases e
        · simp only [if_neg q] at e; exact F.live j b e }
  · rcases hb with hb | hb | ⟨j, hb⟩
    · exact hB b (.inl hb)
    · exact hB b (.inr (.inl hb))
    · by_cases q : j = i
      · simp only [if_pos q] at hb; cases hb
      · simp only [if_neg q] at hb; exact hB b (.inr (.inr ⟨j, hb⟩))

theorem SSs_freeze {sts : List Stmt} {ms : List S} {i : Nat} {x : Str} (hi : names[i]? = some x) (ha : accS sc x = true) (h2 : SSs X n sc names sts ms) : SSs X n sc names sts (.freeze i :: ms) := by
  intro env A s B Φ₀ ρ σ Φ Q he eo hr I h
  obtain ⟨ds, e, h⟩ := MV.mt_of h
  obtain ⟨Φ', le, I'⟩ := I.freeze hi (acc_of he ha) e
  refine wpAny_mono (h2 env A s B Φ₀ _ σ Φ' _ he eo hr I' h) ?_ fun xx xx h => h.elim
  rintro f s₂ ⟨fl, ρ₂, σ₂, Φ₂, hs, I₂, le₂, fr, q⟩
  exact ⟨fl, ρ₂, σ₂, Φ₂, hs, I₂, le.trans le₂, fr, q⟩

noncomputable def stS (sc : Scope) (x : Str) : Bool := match sc.names.lookup x with
  | some .local => true
  | some .cell => true
  | _ => false
theorem st_of (he : env.scope = sc) {x : Str} (h : stS sc x = true) : env.kindOf x = some .local ∨ env.kindOf x = some .cell := by
  rw [Env.kindOf_sc he]
  unfold stS at h
  split at h
  · exact .inl (by assumption)
  · exact .inr (by assumption)
  · cases h

noncomputable def notComp : Expr → Bool
  | .ListComp .. => false
  | .SetComp .. => false
  | .DictComp .. => false
  | _ => true
theorem swaps_false {e : Expr} {t : Expr} {l : Nat} (h : notComp e = true) : swapsWith e (some t) l env = pure false := by
  cases e <;> first | rfl | cases h

theorem SS_asg' {i : Nat} {x : Str} {v : Expr} {e : E} {p pos : Pos} (hi : names[i]? = some x) (hk : stS sc x = true) (hv : SE X n sc names v e) (hc : ∀ env, env.scope = sc → EnvOk env → swapsWith v (some (.Name x p)) pos.line env = pure false) : SS X n sc names (.Assign [.Name x p] v pos) (.asg i e) := by
  intro env A s B Φ₀ ρ σ Φ Q he eo hr I h
  refine wpAny_Assign_Name (wpAny_mono (hv env A s Φ ρ σ _ he eo hr I.ok I.frame h) ?_ fun xx xx h => h.elim) (hc env he eo)
  rintro v s₁ ⟨d, σ₁, Φ₁, st, r, q⟩
  refine (I.step st).storeV eo hi (st_of he hk) r fun s' hs I' => ?_
  obtain ⟨h', tk, rfl⟩ := st.same
  obtain ⟨h'', tk', rfl⟩ := hs
  exact ⟨.next, _, σ₁, Φ₁, ⟨h'', tk', rfl⟩, I', st.mono, trivial, q⟩

theorem SS_asg {i : Nat} {x : Str} {v : Expr} {e : E} {p pos : Pos} (hi : names[i]? = some x) (hk : stS sc x = true) (hv : SE X n sc names v e) (hc : notComp v = true) : SS X n sc names (.Assign [.Name x p] v pos) (.asg i e) :=
  SS_asg' hi hk hv fun xx xx xx => swaps_false hc

theorem SS_asgM' {i : Nat} {x : Str} {v : Expr} {l : L} {p pos : Pos} (hi : names[i]? = some x) (hk : stS sc x = true) (hv : SL X n sc names v l) (hc : ∀ env, env.scope = sc → EnvOk env → swapsWith v (some (.Name x p)) pos.line env = pure false) : SS X n sc names (.Assign [.Name x p] v pos) (.asgM i l) := by
  intro env A s B Φ₀ ρ σ Φ Q he eo hr I h
  refine wpAny_Assign_Name (wpAny_mono (hv env A s Φ ρ σ _ he eo hr I.ok I.frame h) ?_ fun xx xx h => h.elim) (hc env he eo)
  rintro v s₁ ⟨a, vs, ds, σ₁, Φ₁, rfl, st, hn, hl, h1, h2, r, q⟩
  have I₁ := I.step st
  obtain ⟨m, cm, μ, F, hB⟩ := I.fr
  have hold : ∀ o, s.heap.get? a ≠ some o := fun o e => by rw [hn] at e; cases e
  have hBa : B a = none := by
    cases e : B a with
    | none => rfl
    | some o => exact absurd (I.prot a o e).1 (hold o)
  have hga : X.g.get? a = none := by
    cases e : X.g.get? a with
    | none => rfl
    | some o => exact absurd (I.ok.base a o e).1 (hold o)
  have hinn : ∀ b, Own env μ b → b ≠ a := fun b hb q => by
    subst q
    rcases hb with hb | ⟨n, hb⟩ | ⟨j, hb⟩
    · subst hb; obtain ⟨o, _, _, ho, _⟩ := F.ns; exact hold o ho
    · obtain ⟨o, ho⟩ := F.cellsIn n _ hb; exact hold o ho
    · obtain ⟨o, ho⟩ := F.live j _ hb; exact hold o ho
  refine I₁.storeM eo hi (st_of he hk) hl r (F.step st) hB ⟨h1, h2, hga, fun q => hinn _ (.inl rfl) q.symm, fun n q => hinn a (.inr (.inl ⟨n, q⟩)) rfl, fun j xx q => hinn a (.inr (.inr ⟨j, q⟩)) rfl⟩ hBa fun s' hs I' => ?_
  · obtain ⟨h', tk, rfl⟩ := st.same
    obtain ⟨h'', tk', rfl⟩ := hs
    exact ⟨.next, _, σ₁, Φ₁, ⟨h'', tk', rfl⟩, I', st.mono, trivial, q⟩

theorem SS_asgM {i : Nat} {x : Str} {v : Expr} {l : L} {p pos : Pos} (hi : names[i]? = some x) (hk : stS sc x = true) (hv : SL X n sc names v l) (hc : notComp v = true) : SS X n sc names (.Assign [.Name x p] v pos) (.asgM i l) :=
  SS_asgM' hi hk hv fun xx xx xx => swaps_false hc

theorem SS_frozen {st : Stmt} {i : Nat} {x : Str} {l : L} (hi : names[i]? = some x) (hk : stS sc x = true) (h : SS X n sc names st (.asgM i l)) : SS X n sc names st (.asg i (.lst l)) := by
  intro env A s B Φ₀ ρ σ Φ Q he eo hr I hq
  have hlt : i < ρ.length := by
    obtain ⟨m, cm, μ, F, _⟩ := I.fr
    rw [F.len]
    exact (List.getElem?_eq_some_iff.mp hi).1
  have key : (fun (ds : List D) (σ : Sg) => Fl.next = .next ∧ ∃ es, (ρ.set i (.mt ds)).getD i .unb = .mt es ∧ Q .next ((ρ.set i (.mt ds)).set i (.val (.lst es))) σ) = fun ds σ => Q .next (ρ.set i (.val (.lst ds))) σ := by
    funext ds σ
    rw [getD_set_self hlt]
    apply propext
    constructor
    · rintro ⟨_, es, e, q⟩
      cases e
      rw [List.set_set] at q
      exact q
    · intro q
      exact ⟨rfl, ds, rfl, by rw [List.set_set]; exact q⟩
  refine wpAny_mono (h env A s B Φ₀ ρ σ Φ (fun fl ρ' σ' => fl = .next ∧ ∃ es, ρ'.getD i .unb = .mt es ∧ Q .next (ρ'.set i (.val (.lst es))) σ') he eo hr I ?_) ?_ fun xx xx h => h.elim
  · show l X n ρ σ _
    rw [key]; exact hq
  · rintro f s₁ ⟨fl, ρ₁, σ₁, Φ₁, hs, I₁, le₁, fr, rfl, es, e, q⟩
    have ha : acc env x := by
      rcases st_of he hk with h | h
      · exact .inl h
      · exact .inr (.inl h)
    obtain ⟨Φ₂, le₂, I₂⟩ := I₁.freeze hi ha e
    refine ⟨.next, _, σ₁, Φ₂, hs, I₂, le₁.trans le₂, ?_, q⟩
    cases f <;> simp only [FlRel] at fr ⊢
end
section
variable {X : Cx} {n : Nat} {sc : Scope} {names : List Str} {env : Env} {B Φ₀ : Fz} {ρ : List MV} {σ : Sg} {Φ : Fz} {s : Shared} {A : Around}

theorem SS_pass {pos : Pos} : SS X n sc names (.Pass pos) .pass := fun xx xx s xx xx xx xx xx xx xx xx xx I h =>
  wpAny_Pass ⟨.next, _, _, _, ⟨s.heap, s.toks, rfl⟩, I, Fz.le.refl _, trivial, h⟩

theorem SS_ret {v : Expr} {e : E} {pos : Pos} (hv : SE X n sc names v e) : SS X n sc names (.Return (some v) pos) (.ret e) := by
  intro env A s B Φ₀ ρ σ Φ Q he eo hr I h
  refine wpAny_Return_some (wpAny_mono (hv env A s Φ ρ σ _ he eo hr I.ok I.frame h) ?_ fun xx xx h => h.elim)
  rintro v s₁ ⟨d, σ₁, Φ₁, st, r, q⟩
  exact ⟨.ret d, ρ, σ₁, Φ₁, st.same, I.step st, st.mono, r, q⟩

theorem interactive_no (eo : EnvOk env) : interactive env = false := by simp [interactive, eo.kind]

theorem SS_expr {v : Expr} {e : E} {pos : Pos} (hv : SE X n sc names v e) (hc : notComp v = true) : SS X n sc names (.Expr v pos) (.expr e) := by
  intro env A s B Φ₀ ρ σ Φ Q he eo hr I h
  refine wpAny_Expr_any (wpAny_mono (hv env A s Φ ρ σ _ he eo hr I.ok I.frame h) ?_ fun xx xx h => h.elim) (interactive_no eo) (by cases v <;> first | rfl | cases hc)
  rintro v s₁ ⟨d, σ₁, Φ₁, st, r, q⟩
  exact ⟨.next, ρ, σ₁, Φ₁, st.same, I.step st, st.mono, trivial, q⟩

theorem SS_if {c : Expr} {t f : List Stmt} {e : E} {mt mf : List S} {pos : Pos} (hc : ST X n sc names c e) (ht : SSs X n sc names t mt) (hf : SSs X n sc names f mf) : SS X n sc names (.If c t f pos) (.iff e mt mf) := by
  intro env A s B Φ₀ ρ σ Φ Q he eo hr I h
  refine wpAny_If (wpAny_mono (hc env A s Φ ρ σ _ (fun b σ => if b = true then mExecs X n mt ρ σ Q else mExecs X n mf ρ σ Q) he eo hr I.ok I.frame (fun xx xx h => D.bool_of h) h) ?_ fun xx xx h => h.elim)
  rintro b s₁ ⟨σ₁, Φ₁, st, q⟩
  have fin : ∀ f s₂, Ex X env names B Φ₀ s₁ Φ₁ Q f s₂ → Ex X env names B Φ₀ s Φ Q f s₂ := by
    rintro f s₂ ⟨fl, ρ₂, σ₂, Φ₂, ⟨h', tk, rfl⟩, I₂, le₂, fr, q⟩
    obtain ⟨h'', tk', rfl⟩ := st.same
    exact ⟨fl, ρ₂, σ₂, Φ₂, ⟨h', tk, rfl⟩, I₂, st.mono.trans le₂, fr, q⟩
  cases b with
  | true => exact wpAny_mono (ht env A s₁ B Φ₀ ρ σ₁ Φ₁ Q he eo hr (I.step st) q) fin fun xx xx h => h.elim
  | false => exact wpAny_mono (hf env A s₁ B Φ₀ ρ σ₁ Φ₁ Q he eo hr (I.step st) q) fin fun xx xx h => h.elim

theorem SS_while {c : Expr} {t : List Stmt} {e : E} {mt : List S} {pos : Pos} (hc : ST X n sc names c e) (ht : SSs X n sc names t mt) : SS X n sc names (.While c t [] pos) (.while_ e mt) := by
  intro env A s B Φ₀ ρ σ Φ Q he eo hr I h
  obtain ⟨J, ⟨k, hk⟩, step⟩ := h
  refine wpAny_While (codeAny_whileLoop (R := fun r s' => match r with | .ok f => Ex X env names B Φ₀ s Φ Q f s' | .error e => cameBackBy _ A env No e s')
    (fun k s' => ∃ ρ' σ' Φ', (∃ h' tk, s' = { s with heap := h', toks := tk }) ∧ Inv X env names B Φ₀ ρ' σ' Φ' s'.heap ∧ Fz.le Φ Φ' ∧ J k ρ' σ') ?_ k ⟨ρ, σ, Φ, ⟨s.heap, s.toks, rfl⟩, I, Fz.le.refl _, hk⟩)
  rintro k s' ⟨ρ₁, σ₁, Φ₁, ⟨h', tk, rfl⟩, I₁, le₁, hJ⟩
  refine wpAny_mono (hc env A _ Φ₁ ρ₁ σ₁ _ (fun b σ => if b = true then _ else _) he eo hr I₁.ok I₁.frame (fun xx xx h => D.bool_of h) (step k ρ₁ σ₁ hJ)) ?_ fun xx xx h => h.elim
  rintro b s₂ ⟨σ₂, Φ₂, st, q⟩
  obtain ⟨h₂, tk₂, rfl⟩ := st.same
  cases b with
  | false =>
    exact wpAny_execs_nil ⟨.next, ρ₁, σ₂, Φ₂, ⟨h₂, tk₂, rfl⟩, I₁.step st, le₁.trans st.mono, trivial, q⟩
  | true =>
    refine wpAny_mono (ht env A _ B Φ₀ ρ₁ σ₂ Φ₂ _ he eo hr (I₁.step st) q) ?_ fun xx xx h => h.elim
    rintro f s₃ ⟨fl, ρ₃, σ₃, Φ₃, ⟨h₃, tk₃, rfl⟩, I₃, le₃, fr, q⟩
    cases fl with
    | next =>
      cases f <;> simp only [FlRel] at fr
      obtain ⟨j, hj, hJ'⟩ := q
      exact ⟨j, hj, ρ₃, σ₃, Φ₃, ⟨h₃, tk₃, rfl⟩, I₃, (le₁.trans st.mono).trans le₃, hJ'⟩
    | ret d =>
      cases f <;> simp only [FlRel] at fr
      exact ⟨.ret d, ρ₃, σ₃, Φ₃, ⟨h₃, tk₃, rfl⟩, I₃, (le₁.trans st.mono).trans le₃, fr, q⟩

noncomputable def Tgts (names : List Str) (sc : Scope) : List Expr → List Nat → Prop
  | [], [] => True
  | .Name x _ :: es, i :: is => names[i]? = some x ∧ stS sc x = true ∧ Tgts names sc es is
  | _, _ => False

theorem Tgts.len : ∀ {es : List Expr} {is : List Nat}, Tgts names sc es is → es.length = is.length
  | [], [], _ => rfl
  | [], _ :: _, h => by simp [Tgts] at h
  | e :: es, [], h => by cases e <;> simp [Tgts] at h
  | e :: es, i :: is, h => by
    cases e <;> simp only [Tgts] at h
    simp [Tgts.len h.2.2]

set_option tactic.hygienic true in
theorem assignEach_len : ∀ {es : List Expr} {is : List Nat}, Tgts names sc es is → (assignEach es env).length = is.length ∧ (assignEach es env).findIdx? (·.1) = none
  | [], [], _ => ⟨rfl, rfl⟩
  | [], _ :: _, h => by simp [Tgts] at h
  | e :: es, [], h => by cases e <;> simp [Tgts] at h
  | e :: es, i :: is, h => by
    cases e <;> simp only [Tgts] at h
    rename_i x p
    have ih := assignEach_len h.2.2
    have e1 : assignEach (.Name x p :: es) env = (false, assign (.Name x p) env) :: assignEach es env := rfl
    rw [e1]
    refine ⟨by simp [ih.1], ?_⟩
    rw [List.findIdx?_cons]
    simp [ih.2]

set_option tactic.hygienic true in
theorem assign_all (eo : EnvOk env) (he : env.scope = sc) : ∀ {es : List Expr} {is : List Nat} {vs : List Value} {ds : List D} {ρ : List MV} {s : Shared} {K : Unit → Shared → Prop}, Tgts names sc es is → ds.length = is.length → RdAll Φ vs ds →
    Inv X env names B Φ₀ ρ σ Φ s.heap → (∀ s', (∃ h' tk, s' = { s with heap := h', toks := tk }) → Inv X env names B Φ₀ (setAll ρ is ds) σ Φ s'.heap → K () s') →
    wpAny (model X.prog X.w) A (assignInOrder ((assignEach es env).map (·.2)) vs) K No s
  | [], [], vs, ds, ρ, s, K, _, hlen, r, I, h => by
    have : ds = [] := by simpa using hlen
    subst this
    cases r
    exact wpAny_pure (h s ⟨s.heap, s.toks, rfl⟩ (by simpa [setAll] using I))
  | [], _ :: _, _, _, _, _, _, ht, _, _, _, _ => by simp [Tgts] at ht
  | e :: _, [], _, _, _, _, _, ht, _, _, _, _ => by cases e <;> simp [Tgts] at ht
  | e :: es, i :: is, vs, ds, ρ, s, K, ht, hlen, r, I, h => by
    cases e <;> simp only [Tgts] at ht
    rename_i x p
    cases r with
    | nil => simp at hlen
    | cons r1 r2 =>
      show wpAny _ A (do holding _ (assign (.Name x p) env _); assignInOrder ((assignEach es env).map (·.2)) _) _ _ s
      refine wpAny_bind (wpAny_holding (wpAny_assign_Name (I.storeV eo ht.1 (st_of he ht.2.1) r1 fun s' hs I' => ?_)))
      refine assign_all eo he ht.2.2 (by simpa using hlen) r2 I' fun s'' hs' I'' => ?_
      obtain ⟨h', tk, rfl⟩ := hs
      obtain ⟨h'', tk', rfl⟩ := hs'
      exact h _ ⟨h'', tk', rfl⟩ (by simpa [setAll] using I'')

noncomputable def notTup : Expr → Bool
  | .Tuple .. => false
  | _ => true

theorem SS_unp {elts : List Expr} {is : List Nat} {v : Expr} {e : E} {k : Nat} {p pos : Pos} (hcm : X.calm = true) (ht : Tgts names sc elts is) (hv : SE X n sc names v e) (hc : notComp v = true) (hu : notTup v = true) :
    SS X n sc names (.Assign [.Tuple elts k p] v pos) (.unp is e) := by
  intro env A s B Φ₀ ρ σ Φ Q he eo hr I h
  refine Assign_Tuple (wpAny_mono (hv env A s Φ ρ σ _ he eo hr I.ok I.frame h) ?_ fun xx xx h => h.elim) (by cases v <;> first | rfl | cases hc) (by cases v <;> first | rfl | cases hu)
  rintro v s₁ ⟨_, σ₁, Φ₁, st, r, q⟩
  obtain ⟨ds, rfl, q⟩ := D.tup_of q
  cases r with
  | tup ho hcl hd ra =>
    have al := assignEach_len (env := env) ht
    have rl := ra.length
    refine wpAny_assign_Tuple (hr.1 hcm) ⟨_, (st.ok.frz _ _ ho).1, hcl, _, hd⟩ (by rw [al.1, ← q.1, ← rl]; simp) al.2 fun h' hx => ?_
    have st' : Step X.g s₁ { s₁ with heap := h' } Φ₁ Φ₁ σ₁ σ₁ := Step.keeps (tk := s₁.toks) st.ok fun b o e => hx b o (Nat.ne_of_lt (Heap.lt_size e)) e
    refine assign_all eo he ht q.1 ra ((I.step st).step st') fun s' hs I' => ?_
    obtain ⟨h₂, tk₂, rfl⟩ := st.same
    obtain ⟨h₃, tk₃, rfl⟩ := hs
    exact ⟨.next, _, σ₁, Φ₁, ⟨h₃, tk₃, rfl⟩, I', st.mono, trivial, q.2⟩

theorem meth_eq {x : Str} {p apos pos : Pos} {name : Str} {args : List Expr} (hl : (apos.endLine == pos.line) = true) (hs : args.all notStar = true) (hn : args.length < 30) :
    eval (.Call (.Attribute (.Name x p) name apos) args [] pos) env = (do
      let ov ← eval (.Name x p) env
      standAt apos.atName
      let (f, first) ← holding [ov] (getMethod ov name (do return (← importBound (.Name x p) env).getD true))
      callWith pos f first (backTo pos (starEach args env)) []) := by
  have h1 : (backTo pos (starEach args env)).all (!·.1) = true := by
    have := plain_star (pos := pos) (env := env) args hs
    rw [List.any_eq_false] at this
    rw [List.all_eq_true]
    intro q hq
    have := this q hq
    simpa using this
  have h2 : methodCallForm (args.length + 0) (backTo pos (starEach args env)) (backToKw pos (keywordEach [] env)) = true := by
    unfold methodCallForm
    rw [h1]
    simp [backToKw, keywordEach]
    first | with_reducible assumption | omega
  show (do
    let ov ← eval (.Name x p) env
    standAt apos.atName
    methodCall (.Name x p) name apos pos env ov (args.length + 0) (backTo pos (starEach args env)) (backToKw pos (keywordEach [] env))) = _
  unfold methodCall
  simp only [h2, calleeOf, methodCallPos, hl, if_true, Bool.not_true, Bool.false_or, pure_bind]
  rfl

theorem expr_call_swaps {f : Expr} {args : List Expr} {kw : List Keyword} {p : Pos} {l : Nat} : swapsWith (.Call f args kw p) none l env = pure false := rfl

set_option tactic.hygienic true in
theorem SS_app {i : Nat} {x : Str} {v : Expr} {e : E} {p apos cpos pos : Pos} (hi : names[i]? = some x) (ha : accS sc x = true) (hp : plainName x = true) (hv : SE X n sc names v e) (hs : notStar v = true) (hl : (apos.endLine == cpos.line) = true) :
    SS X n sc names (.Expr (.Call (.Attribute (.Name x p) "append" apos) [v] [] cpos) pos) (.app i e) := by
  intro env A s B Φ₀ ρ σ Φ Q he eo hr I h
  obtain ⟨ds, eds, hlen, h⟩ := MV.mt_of h
  refine wpAny_Expr (MethodCall_ ?_ (meth_eq hl (by simp [hs]) (by simp))) (interactive_no eo) expr_call_swaps
  obtain ⟨m, cm, μ, F, hB⟩ := I.fr
  simp only [plainName, Bool.and_eq_true, Bool.not_eq_true'] at hp
  obtain ⟨a, vs, hμ, hlk, hpl, hrd⟩ := F.own hi (acc_of he ha) eds
  refine load_var eo F (acc_of he ha) hlk hp.1 hp.2 ?_
  obtain ⟨k, ho⟩ := id hpl
  refine Calls.getMethod_list_append ho rfl rfl ?_
  refine callWith_method1 ?_ (starEach_cons hs) rfl
  have h1 : mEvals X n [e] ρ σ (fun ds' σ => ∃ d, ds' = [d] ∧ Q .next (ρ.set i (.mt (ds ++ [d]))) σ) := by
    simp only [mEvals, List.cons.injEq, and_true, exists_eq_left']; exact h
  refine wpAny_mono (SEs_cons hv SEs_nil hs env A s Φ ρ σ _ cpos he eo hr I.ok I.frame h1) ?_ fun xx xx h => h.elim
  rintro ws s₁ ⟨_, σ₁, Φ₁, st, r, d, rfl, q⟩
  cases r with
  | cons r1 r2 =>
    cases r2
    rename_i y
    have p := F.priv a (.inr (.inr ⟨i, hμ⟩))
    have hpl₁ : s₁.heap.PlainList a vs := hpl.at fun o ho => st.keep a o ho p.1
    refine wpAny_list_append_plain hpl₁ (fun h' hl' hs' => ?_) (by have := hrd.length; simp only [Array.length_toList] at this; unfold sizeLine; (first | with_reducible exact oo9 ‹_› ‹_› | omega))
    have rr : RdAll Φ₁ (vs.push y).toList (ds ++ [d]) := by simpa using (hrd.mono st.mono).append (.one r1)
    have I' := (I.step st).upd (F.step st) hB hi hμ hs' hl' rr
    obtain ⟨h₂, tk₂, rfl⟩ := st.same
    exact ⟨.next, _, σ₁, Φ₁, ⟨h', tk₂, rfl⟩, I', st.mono, trivial, q⟩

theorem pop_plain {prog : Program} {w : World} {l : Addr} {items : Array Value} {k : Int} {t : Tok} {y : Value} {K : Value → Shared → Prop} {E : Value → Shared → Prop} (hl : s.heap.PlainList l items) (h0 : 0 ≤ k) (h1 : k < 2 ^ 62)
    (hy : items[k.toNat]? = some y) (hsz : items.size ≤ sizeLine)
    (h : ∀ h', h'.PlainList l (items.eraseIdxIfInBounds k.toNat) → Heap.SameBut l s.heap h' → K y { s with heap := h' }) : wpAny (model prog w) A (call (.builtin "list.pop") [.ref l, .int k t]) K E s := by
  obtain ⟨n, ho⟩ := hl
  have hlt : k.toNat < items.size := by
    rcases Nat.lt_or_ge k.toNat items.size with h | h
    · exact h
    · rw [Array.getElem?_eq_none h] at hy; cases hy
  refine call_meets PySem.F.slot_list_pop ⟨_, ho, rfl⟩ PySem.F.entry_list_pop (PySem.F.args_list_pop_2 _ _) (MeetsSeq.list_pop_at l items n k t k.toNat y (by simp [Builtin.List.listFitsIndex]; omega) (seqIndex_nat h0 (by omega)) hy hsz) ⟨ho, ?_⟩
  have hu := Heap.get?_update_self (Obj.mapSeq fun xs => xs.eraseIdxIfInBounds k.toNat) ho rfl
  exact h _ ⟨if (items.eraseIdxIfInBounds k.toNat).size == items.size then n else n + 1, hu⟩ (Heap.SameBut.update ..)

theorem SS_appPop {i j : Nat} {x y : Str} {v : Expr} {e : E} {p apos cpos pos p' apos' cpos' : Pos} (hi : names[i]? = some x) (ha : accS sc x = true) (hp : plainName x = true)
    (hj : names[j]? = some y) (hb : accS sc y = true) (hq : plainName y = true) (hv : SE X n sc names v e) (hs : notStar v = true) (hl : (apos.endLine == cpos.line) = true) (hl' : (apos'.endLine == cpos'.line) = true) :
    SS X n sc names (.Expr (.Call (.Attribute (.Name x p) "append" apos) [.Call (.Attribute (.Name y p') "pop" apos') [v] [] cpos'] [] cpos) pos) (.appPop i j e) := by
  intro env A s B Φ₀ ρ σ Φ Q he eo hr I h
  obtain ⟨hij, h⟩ := h
  obtain ⟨ds, e1, h⟩ := MV.mt_of h
  obtain ⟨es, e2, hlen, hlen', h⟩ := MV.mt_of h
  refine wpAny_Expr (MethodCall_ ?_ (meth_eq hl rfl (by simp))) (interactive_no eo) expr_call_swaps
  obtain ⟨m, cm, μ, F, hB⟩ := I.fr
  simp only [plainName, Bool.and_eq_true, Bool.not_eq_true'] at hp hq
  obtain ⟨a, vs, hμ, hlk, hpl, hrd⟩ := F.own hi (acc_of he ha) e1
  obtain ⟨b, us, hμ', hlk', hpl', hrd'⟩ := F.own hj (acc_of he hb) e2
  have hab : a ≠ b := fun q => hij (F.inj i j a hμ (q ▸ hμ'))
  refine load_var eo F (acc_of he ha) hlk hp.1 hp.2 ?_
  obtain ⟨k, ho⟩ := id hpl
  refine Calls.getMethod_list_append ho rfl rfl ?_
  refine callWith_method1 ?_ rfl rfl
  show wpAny _ A (spliced [(false, eval (.Call (.Attribute (.Name y p') "pop" apos') [v] [] cpos') env)]) _ _ s
  refine Calls.spliced_cons (MethodCall_ ?_ (meth_eq hl' (by simp [hs]) (by simp)))
  refine load_var eo F (acc_of he hb) hlk' hq.1 hq.2 ?_
  obtain ⟨k', ho'⟩ := id hpl'
  refine getMethod_list_of PySem.F.slot_list_pop PySem.F.type_list_pop hpl'.isList ⟨_, ho', rfl⟩ ?_
  refine callWith_method1 ?_ (starEach_cons hs) rfl
  have h1 : mEvals X n [e] ρ σ (fun ds' σ => ∃ k, ds' = [k] ∧ k.onInt fun t => ∃ d, 0 ≤ t ∧ es[t.toNat]? = some d ∧ Q .next ((ρ.set j (.mt (es.eraseIdx t.toNat))).set i (.mt (ds ++ [d]))) σ) := by
    simp only [mEvals, List.cons.injEq, and_true, exists_eq_left']; exact h
  refine wpAny_mono (SEs_cons hv SEs_nil hs env A s Φ ρ σ _ cpos' he eo hr I.ok I.frame h1) ?_ fun xx xx h => h.elim
  rintro ws s₁ ⟨_, σ₁, Φ₁, st, r, kk, rfl, q⟩
  obtain ⟨t, rfl, d, ht0, hd, q⟩ := D.int_of q
  cases r with
  | cons r1 r2 =>
    cases r2
    cases r1 with
    | int _ tk =>
      have p := F.priv a (.inr (.inr ⟨i, hμ⟩))
      have p' := F.priv b (.inr (.inr ⟨j, hμ'⟩))
      have hpl₁ : s₁.heap.PlainList a vs := hpl.at fun o ho => st.keep a o ho p.1
      have hpl₁' : s₁.heap.PlainList b us := hpl'.at fun o ho => st.keep b o ho p'.1
      obtain ⟨y, hy, ry⟩ := (hrd'.mono st.mono).get hd
      have hul := hrd'.length
      have htl : t.toNat < es.length := (List.getElem?_eq_some_iff.mp hd).1
      simp only [Array.length_toList] at hul
      refine pop_plain hpl₁' ht0 (by omega) (by simpa using hy) (by unfold sizeLine; (first | with_reducible exact oo9 ‹_› ‹_› | omega)) fun h' hl₁ hs₁ => ?_
      have rr' : RdAll Φ₁ (us.eraseIdxIfInBounds t.toNat).toList (es.eraseIdx t.toNat) := by
        have := (hrd'.mono st.mono).eraseIdx t.toNat
        simpa using this
      have I₁ := (I.step st).upd (F.step st) hB hj hμ' hs₁ hl₁ rr'
      have F₁ := (F.step st).upd hj hμ' hs₁ hl₁ rr'
      refine Calls.spliced_nil ?_
      have hpl₂ : h'.PlainList a vs := hpl₁.at fun o ho => (hs₁.2 a hab).trans ho
      refine wpAny_list_append_plain (s := { s₁ with heap := h' }) hpl₂ (fun h₂ hl₂ hs₂ => ?_) (by have := hrd.length; simp only [Array.length_toList] at this; unfold sizeLine; (first | with_reducible exact oo9 ‹_› ‹_› | omega))
      have rr : RdAll Φ₁ (vs.push y).toList (ds ++ [d]) := by simpa using (hrd.mono st.mono).append (.one ry)
      have I₂ := I₁.upd F₁ hB hi hμ hs₂ hl₂ rr
      obtain ⟨h₃, tk₃, rfl⟩ := st.same
      exact ⟨.next, _, σ₁, Φ₁, ⟨h₂, tk₃, rfl⟩, I₂, st.mono, trivial, q⟩
end
section
variable {X : Cx} {n : Nat} {sc : Scope} {names : List Str} {env : Env} {B Φ₀ : Fz} {ρ : List MV} {σ : Sg} {Φ : Fz} {s : Shared} {A : Around}

theorem setItem_plain {prog : Program} {w : World} {E : Value → Shared → Prop} {l : Addr} {items : Array Value} {k : Int} {t : Tok} {v : Value} {K : Unit → Shared → Prop} (hl : s.heap.PlainList l items) (h0 : 0 ≤ k) (hfit : k < 2 ^ 63)
    (hn : k < items.size) (h : ∀ h', h'.PlainList l (items.setIfInBounds k.toNat v) → Heap.SameBut l s.heap h' → K () { s with heap := h' }) : wpAny (model prog w) A (setItem (.ref l) (.int k t) v) K E s := by
  obtain ⟨m, ho⟩ := id hl
  have hT := hl.isList.typeIs
  unfold setItem
  try with_reducible refine wpAny_holding ?_
  first | refine wpAny_bind (wpAny_pure ?_) | skip
  refine wpAny_bind (wpAny_sequenceKey hT (by decide) ?_)
  refine wpAny_bind (wpAny_callSpecial?_slot (name := Str.ofString "__setitem__") hT slot_list_setitem (wpAny_call_entry slot_list_setitem hT entry_list_setitem ?_ (args_list_setitem _ _ _)))
  show wpAny _ _ (Builtin.List.listSubscript? (.int k t) >>= _) _ _ s
  refine wpAny_bind (wpAny_listSubscript_int (fitsIndex_of h0 hfit) ?_)
  clear hfit
  obtain ⟨j, rfl⟩ := Int.eq_ofNat_of_zero_le h0
  have hj : j < items.size := by omega
  have hx' : items[j]? = some items[j] := Array.getElem?_eq_getElem hj
  show wpAny _ _ ((seqItemAt l j >>= fun r => pure (r.map (j, ·))) >>= _) _ _ s
  refine wpAny_bind (wpAny_bind (wpAny_seqItemAt ho rfl (wpAny_pure ?_)))
  rw [hx']
  show wpAny _ _ (setSeqItemAt l j v >>= _) _ _ s
  have hu := Heap.get?_update_self (Obj.mapSeq (·.setIfInBounds j v)) ho rfl
  have hfin : (s.heap.update l (Obj.mapSeq (·.setIfInBounds j v))).PlainList l (items.setIfInBounds j v) := ⟨if (items.setIfInBounds j v).size == items.size then m else m + 1, hu⟩
  refine wpAny_bind (wpAny_setSeqItemAt ho rfl ?_)
  first
    | exact wpAny_bind (wpAny_pure (wpAny_pure ⟨.none, rfl, wpAny_pure (h _ hfin (Heap.SameBut.update ..))⟩))
    | exact wpAny_pure ⟨.none, rfl, wpAny_pure (h _ hfin (Heap.SameBut.update ..))⟩

theorem SS_setI {i : Nat} {x : Str} {v k : Expr} {e ek : E} {p p' pos : Pos} (hi : names[i]? = some x) (ha : accS sc x = true) (hp : plainName x = true) (hv : SE X n sc names v e) (hk : SE X n sc names k ek) (hc : notComp v = true) :
    SS X n sc names (.Assign [.Subscript (.Name x p) k p'] v pos) (.setI i ek e) := by
  intro env A s B Φ₀ ρ σ Φ Q he eo hr I h
  obtain ⟨ds, eds, hlen, h⟩ := MV.mt_of h
  refine wpAny_Assign_Subscript (wpAny_mono (hv env A s Φ ρ σ _ he eo hr I.ok I.frame h) ?_ fun xx xx h => h.elim) (swaps_false hc)
  rintro v s₁ ⟨d, σ₁, Φ₁, st, r, q⟩
  obtain ⟨m, cm, μ, F, hB⟩ := I.fr
  simp only [plainName, Bool.and_eq_true, Bool.not_eq_true'] at hp
  have F₁ := F.step st
  have I₁ := I.step st
  obtain ⟨a, vs, hμ, hlk, hpl, hrd⟩ := F₁.own hi (acc_of he ha) eds
  refine load_var eo F₁ (acc_of he ha) hlk hp.1 hp.2 ?_
  refine wpAny_mono (hk env A s₁ Φ₁ ρ σ₁ _ he eo hr st.ok I₁.frame q) ?_ fun xx xx h => h.elim
  rintro w s₂ ⟨d₂, σ₂, Φ₂, st₂, r₂, q₂⟩
  obtain ⟨j, rfl, hj0, hj1, q₂⟩ := D.int_of q₂
  cases r₂ with
  | int _ t =>
    have pr := F₁.priv a (.inr (.inr ⟨i, hμ⟩))
    have hpl₂ : s₂.heap.PlainList a vs := hpl.at fun o ho => st₂.keep a o ho pr.1
    have hl := hrd.length
    simp only [Array.length_toList] at hl
    refine setItem_plain hpl₂ hj0 (by omega) (by first | with_reducible exact ooz ‹_› ‹_› | omega) fun h' hl' hs' => ?_
    have rr : RdAll Φ₂ (vs.setIfInBounds j.toNat v).toList (ds.set j.toNat d) := by
      have := (hrd.mono st₂.mono).set j.toNat (r.mono st₂.mono)
      simpa using this
    have I' := (I₁.step st₂).upd (F₁.step st₂) hB hi hμ hs' hl' rr
    obtain ⟨h₃, tk₃, rfl⟩ := (st.trans st₂).same
    exact ⟨.next, _, σ₂, Φ₂, ⟨h', tk₃, rfl⟩, I', st.mono.trans st₂.mono, trivial, q₂⟩

/-! ## what an iterable feeds -/

noncomputable def Bx (B : Fz) (fpp : List Addr) (h : Heap) : Fz := fun b => if b ∈ fpp then h.get? b else B b

structure Ours (X : Cx) (B Φ₀ : Fz) (fpp : List Addr) : Prop where
  frz : ∀ b ∈ fpp, Φ₀ b = none
  grd : ∀ b ∈ fpp, X.g.get? b = none
  prt : ∀ b ∈ fpp, B b = none

theorem Bx_le {fpp : List Addr} {h : Heap} (O : Ours X B Φ₀ fpp) : Fz.le B (Bx B fpp h) := fun b o e => by
  unfold Bx
  by_cases q : b ∈ fpp
  · rw [O.prt b q] at e; cases e
  · rw [if_neg q]; exact e

theorem Inv.ofX {fpp : List Addr} {h h' : Heap} (O : Ours X B Φ₀ fpp) (I : Inv X env names (Bx B fpp h') Φ₀ ρ σ Φ h) : Inv X env names B Φ₀ ρ σ Φ h := by
  have le := Bx_le (h := h') O
  obtain ⟨m, cm, μ, F, hB⟩ := I.fr
  have no : ∀ a, Bx B fpp h' a = none → B a = none := fun a e => by
    cases q : B a with
    | none => rfl
    | some o => rw [le a o q] at e; cases e
  refine ⟨I.ok, I.mono0, fun b o e => I.prot b o (le b o e), fun b hb hf => I.priv b (fun q => hb (no b q)) hf, m, cm, μ, F, fun a ha => no a (hB a ha)⟩

theorem Inv.toX {fpp : List Addr} {h : Heap} (I : Inv X env names B Φ₀ ρ σ Φ h) {m cm : Str → Option Value} {μ : Nat → Option Addr} (F : FrameX X.g env names ρ σ Φ h m cm μ) (hB : ∀ a, Own env μ a → B a = none)
    (hn : ∀ b ∈ fpp, ¬ Own env μ b ∧ σ b = none ∧ Φ b = none) : Inv X env names (Bx B fpp h) Φ₀ ρ σ Φ h := by
  refine ⟨I.ok, I.mono0, fun b o e => ?_, fun b hb hf => ?_, m, cm, μ, F, fun a ha => ?_⟩
  · unfold Bx at e
    by_cases q : b ∈ fpp
    · rw [if_pos q] at e; exact ⟨e, (hn b q).2.1⟩
    · rw [if_neg q] at e; exact I.prot b o e
  · unfold Bx at hb
    by_cases q : b ∈ fpp
    · exact absurd (hn b q).2.2 hf
    · rw [if_neg q] at hb; exact I.priv b hb hf
  · unfold Bx
    by_cases q : a ∈ fpp
    · exact absurd ha (hn a q).1
    · rw [if_neg q]; exact hB a ha

theorem Inv.writeX {fpp W : List Addr} {h h' : Heap} (O : Ours X B Φ₀ fpp) (I : Inv X env names (Bx B fpp h) Φ₀ ρ σ Φ h) (al : ∀ b ∈ fpp, ∃ o, h.get? b = some o) (hW : ∀ b ∈ W, b ∈ fpp)
    (hk : ∀ b o, b ∉ W → h.get? b = some o → h'.get? b = some o) : Inv X env names (Bx B fpp h') Φ₀ ρ σ Φ h' := by
  obtain ⟨m, cm, μ, F, hB⟩ := I.fr
  have inX : ∀ b ∈ fpp, ∃ o, Bx B fpp h b = some o := fun b hb => by
    obtain ⟨o, ho⟩ := al b hb
    exact ⟨o, by unfold Bx; rw [if_pos hb]; exact ho⟩
  have trk : ∀ b ∈ fpp, σ b = none := fun b hb => let ⟨o, ho⟩ := inX b hb; (I.prot b o ho).2
  have frz : ∀ b ∈ fpp, Φ b = none := fun b hb => by
    obtain ⟨o, ho⟩ := inX b hb
    cases q : Φ b with
    | none => rfl
    | some o' => exact absurd (O.frz b hb) (I.priv b (by rw [ho]; simp) (by rw [q]; simp))
  have own : ∀ b ∈ fpp, ¬ Own env μ b := fun b hb ha => by
    obtain ⟨o, ho⟩ := inX b hb
    rw [hB b ha] at ho; cases ho
  have ko : ∀ a o, Own env μ a → h.get? a = some o → h'.get? a = some o := fun a o ha e => hk a o (fun q => own a (hW a q) ha) e
  have F' : FrameX X.g env names ρ σ Φ h' m cm μ := {
    nd := F.nd
    len := F.len
    ns := F.ns.at' fun o e => ko _ o (.inl rfl) e
    cell := fun n c hc => let ⟨o, ho, hd⟩ := F.cell n c hc; ⟨o, ko c o (.inr (.inl ⟨n, mem_of_lookup hc⟩)) ho, hd⟩
    cellsIn := fun n c hc => let ⟨o, ho⟩ := F.cellsIn n c hc; ⟨o, ko c o (.inr (.inl ⟨n, hc⟩)) ho⟩
    hasCell := F.hasCell
    apart := F.apart
    offc := F.offc
    priv := F.priv
    vars := fun j y hj hacc => (F.vars j y hj hacc).mono (Fz.le.refl _) fun a o e ho => ko a o (.inr (.inr ⟨j, e⟩)) ho
    inj := F.inj
    offm := F.offm
    live := fun j a e => let ⟨o, ho⟩ := F.live j a e; ⟨o, ko a o (.inr (.inr ⟨j, e⟩)) ho⟩ }
  have ok' : Ok X.g σ Φ h' := by
    refine ⟨fun b o e => ⟨hk b o (fun q => ?_) (I.ok.base b o e).1, (I.ok.base b o e).2⟩, fun b o e => ⟨hk b o (fun q => ?_) (I.ok.frz b o e).1, (I.ok.frz b o e).2⟩, fun b t e => (I.ok.trk b t e).mono (Fz.le.refl _) fun o ho => hk b o (fun q => ?_) ho⟩
    · rw [O.grd b (hW b q)] at e; cases e
    · rw [frz b (hW b q)] at e; cases e
    · rw [trk b (hW b q)] at e; cases e
  refine ⟨ok', I.mono0, fun b o e => ?_, fun b hb hf => ?_, m, cm, μ, F', fun a ha => ?_⟩
  · unfold Bx at e
    by_cases q : b ∈ fpp
    · rw [if_pos q] at e; exact ⟨e, trk b q⟩
    · rw [if_neg q] at e
      obtain ⟨h1, h2⟩ := I.prot b o (Bx_le O b o e)
      exact ⟨hk b o (fun z => q (hW b z)) h1, h2⟩
  · by_cases q : b ∈ fpp
    · exact absurd (frz b q) hf
    · unfold Bx at hb
      rw [if_neg q] at hb
      refine I.priv b ?_ hf
      unfold Bx
      rw [if_neg q]; exact hb
  · by_cases q : a ∈ fpp
    · exact absurd ha (own a q)
    · have := hB a ha
      unfold Bx at this ⊢
      rw [if_neg q] at this ⊢
      exact this

theorem Bx_same {fpp : List Addr} {h h' : Heap} (al : ∀ b ∈ fpp, ∃ o, h.get? b = some o) (I : Inv X env names (Bx B fpp h) Φ₀ ρ σ Φ h') : (∀ b ∈ fpp, h'.get? b = h.get? b) ∧ Bx B fpp h' = Bx B fpp h := by
  have k : ∀ b ∈ fpp, h'.get? b = h.get? b := fun b hb => by
    obtain ⟨o, ho⟩ := al b hb
    rw [ho]
    exact (I.prot b o (by unfold Bx; rw [if_pos hb]; exact ho)).1
  refine ⟨k, funext fun b => ?_⟩
  unfold Bx
  by_cases q : b ∈ fpp
  · rw [if_pos q, if_pos q]; exact k b q
  · rw [if_neg q, if_neg q]

noncomputable def Got (Φ : Fz) (h : Heap) (target : Expr) (v : Value) (r : List D) : Prop := match target with
  | .Name .. => ∃ d, r = [d] ∧ Rd Φ v d
  | .Tuple .. => ∃ T vals, v = .ref T ∧ h.IsTuple T vals ∧ RdAll Φ vals.toList r
  | _ => False
theorem Got.mono {Φ Φ' : Fz} {h : Heap} {target : Expr} {v : Value} {r : List D} (hl : Fz.le Φ Φ') (g : Got Φ h target v r) : Got Φ' h target v r := by
  cases target <;> simp only [Got] at g ⊢
  · obtain ⟨d, h1, h2⟩ := g; exact ⟨d, h1, h2.mono hl⟩
  · obtain ⟨T, vals, h1, h2, h3⟩ := g; exact ⟨T, vals, h1, h2, h3.mono hl⟩

structure Feeder (X : Cx) (A : Around) (target : Expr) (rows : List (List D)) (σ : Sg) (Φ : Fz) (s₀ s : Shared) (I : Addr) (fp wr : List Addr) (St : Nat → Heap → Prop) : Prop where
  sub : ∀ b ∈ wr, b ∈ fp
  frame : ∀ i h h', St i h → (∀ b ∈ fp, ∀ o, h.get? b = some o → h'.get? b = some o) → St i h'
  next : ∀ j (s' : Shared) (K : Value → Shared → Prop) r, rows[j]? = some r → St j s'.heap →
    (∀ v h₁ tk, Got Φ h₁ target v r → St (j + 1) h₁ → (∀ b o, b ∉ wr → s'.heap.get? b = some o → h₁.get? b = some o) → K v { s' with heap := h₁, toks := tk }) →
    wpAny (model X.prog X.w) A (pyNext (.ref I)) (fun r s₁ => ∃ v, r = some v ∧ wpAny (model X.prog X.w) A (letOwnedTupleGo target (.ref I) v) (fun xx s₂ => K v s₂) No s₁) No s'
  done : ∀ (s' : Shared) (K : Shared → Prop), St rows.length s'.heap →
    (∀ h₁ tk, (∀ b o, b ∉ wr → s'.heap.get? b = some o → h₁.get? b = some o) → K { s' with heap := h₁, toks := tk }) → wpAny (model X.prog X.w) A (pyNext (.ref I)) (fun r s₁ => r = none ∧ K s₁) No s'
  self : ∀ (s' : Shared) (K : Value → Shared → Prop), St 0 s'.heap → K (.ref I) s' → wpAny (model X.prog X.w) A (pyIter (.ref I)) K No s'
  st0 : St 0 s.heap
  inn : ∀ b ∈ fp, ∃ o, s.heap.get? b = some o
  new : ∀ b ∈ fp, Φ b ≠ none ∨ (s₀.heap.get? b = none ∧ σ b = none ∧ Φ b = none)
  wnew : ∀ b ∈ wr, s₀.heap.get? b = none ∧ σ b = none ∧ Φ b = none
  live : ∀ j h, St j h → ∀ b ∈ wr, ∃ o, h.get? b = some o

noncomputable def SI (X : Cx) (n : Nat) (sc : Scope) (names : List Str) (target x : Expr) (it : It) (k : Nat) : Prop :=
  ∀ env A s Φ ρ σ Q, env.scope = sc → EnvOk env → Room X n A → Ok X.g σ Φ s.heap → Frame X.g env names ρ σ Φ s.heap → mIt X n it k ρ σ Q →
    wpAny (model X.prog X.w) A (eval x env) (fun xv s₁ => wpAny (model X.prog X.w) A (pyIter xv) (fun itv s₂ => ∃ rows σ' Φ', Step X.g s s₂ Φ Φ' σ σ' ∧ Q rows σ' ∧ (∀ r ∈ rows, r.length = k) ∧
      ∃ I fp wr St, itv = .ref I ∧ Feeder X A target rows σ' Φ' s s₂ I fp wr St ∧ X.calm = true) No s₁) No s

noncomputable def TgtOk (names : List Str) (sc : Scope) : Expr → List Nat → Prop
  | .Name x _, is => ∃ i, is = [i] ∧ names[i]? = some x ∧ stS sc x = true
  | .Tuple elts _ _, is => Tgts names sc elts is
  | _, _ => False

theorem assign_got {target : Expr} {is : List Nat} {v : Value} {r : List D} {K : Unit → Shared → Prop} (hcm : X.calm = true) (hr : Room X n A) (eo : EnvOk env) (he : env.scope = sc) (ht : TgtOk names sc target is) (hl : r.length = is.length) (hg : Got Φ s.heap target v r)
    (I : Inv X env names B Φ₀ ρ σ Φ s.heap) (h : ∀ s', (∃ h' tk, s' = { s with heap := h', toks := tk }) → Inv X env names B Φ₀ (setAll ρ is r) σ Φ s'.heap → K () s') :
    wpAny (model X.prog X.w) A (assign target env v) K No s := by
  cases target <;> simp only [Got, TgtOk] at hg ht
  · obtain ⟨d, rfl, rd⟩ := hg
    obtain ⟨i, rfl, hi, hk⟩ := ht
    exact wpAny_assign_Name (I.storeV eo hi (st_of he hk) rd fun s' hs I' => h s' hs (by simpa [setAll] using I'))
  · obtain ⟨T, vals, rfl, hT, ra⟩ := hg
    have al := assignEach_len (env := env) ht
    have rl := ra.length
    refine wpAny_assign_Tuple (hr.1 hcm) hT (by rw [al.1, ← hl, ← rl]; simp) al.2 fun h' hx => ?_
    have st' : Step X.g s { s with heap := h' } Φ Φ σ σ := Step.keeps (tk := s.toks) I.ok fun b o e => hx b o (Nat.ne_of_lt (Heap.lt_size e)) e
    refine assign_all eo he ht hl ra (I.step st') fun s' hs I' => ?_
    obtain ⟨h₂, tk₂, rfl⟩ := hs
    exact h _ ⟨h₂, tk₂, rfl⟩ I'

theorem meas_lt {a j : Nat} (h : j < a) : a + 1 - (j + 1) < a + 1 - j := by omega
theorem eq_of_ge {a j : Nat} (h : ¬ j < a) (h' : j ≤ a) : j = a := by omega
theorem le_size {a b c d : Nat} (h : a = b) (h1 : b ≤ c) (h2 : c < d) (h3 : d ≤ 2 ^ 20) : a ≤ sizeLine := by unfold sizeLine; omega
noncomputable def notSet : Expr → Bool
  | .Set .. => false
  | _ => true
theorem folded_id {e : Expr} (h : notSet e = true) (x : Value) : foldedSetIterable e env x = pure x := by
  cases e <;> first | rfl | cases h

theorem for_core {target : Expr} {is : List Nat} {iter : Expr} {it : It} {body : List Stmt} {pos : Pos} {E : Value → Shared → Prop} (ht : TgtOk names sc target is) (hit : SI X n sc names target iter it is.length) (hs : notSet iter = true)
    {Q : Fl → List MV → Sg → Prop} {T : List (List D) → List MV → Sg → Prop} (he : env.scope = sc) (eo : EnvOk env) (hr : Room X n A) (I : Inv X env names B Φ₀ ρ σ Φ s.heap) (h : mIt X n it is.length ρ σ fun rows σ => T rows ρ σ)
    (hend : ∀ ρ σ, T [] ρ σ → Q .next ρ σ)
    (hturn : ∀ r rs ρ' σ' Φ' s' B', T (r :: rs) ρ' σ' → (∀ b o, B b = some o → B' b = some o) → (∀ ρ σ Φ h, Inv X env names B' Φ₀ ρ σ Φ h → Inv X env names B Φ₀ ρ σ Φ h) → Inv X env names B' Φ₀ (setAll ρ' is r) σ' Φ' s'.heap →
      (∃ h' tk, s' = { s with heap := h', toks := tk }) → Fz.le Φ Φ' → wpAny (model X.prog X.w) A (execs body env) (Ex X env names B' Φ₀ s' Φ' fun fl ρ σ => match fl with | .next => T rs ρ σ | .ret d => Q (.ret d) ρ σ)
        (notedBy (model X.prog X.w) A env fun e s'' => cameBackBy (model X.prog X.w) A env E e s'') s') :
    wpAny (model X.prog X.w) A (exec (.For target iter body [] pos) env) (Ex X env names B Φ₀ s Φ Q) E s := by
  refine wpAny_For (wpAny_mono (hit env A s Φ ρ σ _ he eo hr I.ok I.frame h) (fun xv s₁ h₁ => wpAny_mono h₁ (fun itv s₂ h₂ => ?_) fun xx xx h => h.elim) fun xx xx h => h.elim) (folded_id hs)
  obtain ⟨rows, σ₁, Φ₁, st, q, hrl, Ia, fp, wr, St, rfl, fd, hcm⟩ := h₂
  obtain ⟨m, cm, μ, F, hB⟩ := I.fr
  have F₁ := F.step st
  have I₁ := I.step st
  classical
  -- the objects of the iterator that are its own
  let fpp := fp.filter fun b => decide (Φ₁ b = none)
  have mem : ∀ b, b ∈ fpp ↔ b ∈ fp ∧ Φ₁ b = none := fun b => by simp [fpp]
  have fresh : ∀ b ∈ fpp, s.heap.get? b = none ∧ σ₁ b = none ∧ Φ₁ b = none := fun b hb => by
    rcases fd.new b ((mem b).mp hb).1 with h | h
    · exact absurd ((mem b).mp hb).2 h
    · exact h
  have hold : ∀ b ∈ fpp, ∀ o, s.heap.get? b ≠ some o := fun b hb o e => by rw [(fresh b hb).1] at e; cases e
  have O : Ours X B Φ₀ fpp := ⟨fun b hb => by
      cases e : Φ₀ b with
      | none => rfl
      | some o => exact absurd (I.ok.frz b o (I.mono0 b o e)).1 (hold b hb o),
    fun b hb => by
      cases e : X.g.get? b with
      | none => rfl
      | some o => exact absurd (I.ok.base b o e).1 (hold b hb o),
    fun b hb => by
      cases e : B b with
      | none => rfl
      | some o => exact absurd (I.prot b o e).1 (hold b hb o)⟩
  have wsub : ∀ b ∈ wr, b ∈ fpp := fun b hb => (mem b).mpr ⟨fd.sub b hb, (fd.wnew b hb).2.2⟩
  have al₀ : ∀ b ∈ fpp, ∃ o, s₂.heap.get? b = some o := fun b hb => fd.inn b ((mem b).mp hb).1
  have IX : Inv X env names (Bx B fpp s₂.heap) Φ₀ ρ σ₁ Φ₁ s₂.heap := by
    refine I₁.toX F₁ hB fun b hb => ⟨fun ho => ?_, (fresh b hb).2⟩
    rcases ho with ho | ⟨n, ho⟩ | ⟨j, ho⟩
    · subst ho; obtain ⟨o, _, _, e, _⟩ := F.ns; exact hold _ hb o e
    · obtain ⟨o, e⟩ := F.cellsIn n b ho; exact hold b hb o e
    · obtain ⟨o, e⟩ := F.live j b ho; exact hold b hb o e
  obtain ⟨hp₂, tk₂, rfl⟩ := st.same
  refine codeAny_forLoop_any (R := fun r s' => match r with | .ok f => Ex X env names B Φ₀ s Φ Q f s' | .error e => cameBackBy _ A env E e s')
    (fun k s' => ∃ j ρ' σ' Φ', (∃ h' tk, s' = { s with heap := h', toks := tk }) ∧ Inv X env names (Bx B fpp s'.heap) Φ₀ ρ' σ' Φ' s'.heap ∧ Fz.le Φ₁ Φ' ∧ (∀ b ∈ fpp, ∃ o, s'.heap.get? b = some o) ∧ St j s'.heap ∧
      T (rows.drop j) ρ' σ' ∧ j ≤ rows.length ∧ k = rows.length + 1 - j) ?_ (rows.length + 1)
    ⟨0, ρ, σ₁, Φ₁, ⟨hp₂, tk₂, rfl⟩, IX, Fz.le.refl _, al₀, fd.st0, by simpa using q, Nat.zero_le _, rfl⟩
  rintro k s' ⟨j, ρ', σ', Φ', ⟨h', tk, rfl⟩, I', le', al', st', q', hj, rfl⟩
  by_cases hlt : j < rows.length
  · have hrow : rows[j]? = some rows[j] := List.getElem?_eq_getElem hlt
    refine wpAny_mono (fd.next j _ (fun v s₂ => wpAny (model X.prog X.w) A (assign target env v) (fun xx s₃ => wpAny (model X.prog X.w) A (execs body env) (fun f s₄ => match f with
            | .next | .cont => ∃ m, m < rows.length + 1 - j ∧ ∃ j ρ' σ' Φ', (∃ h' tk, s₄ = { s with heap := h', toks := tk }) ∧ Inv X env names (Bx B fpp s₄.heap) Φ₀ ρ' σ' Φ' s₄.heap ∧ Fz.le Φ₁ Φ' ∧ (∀ b ∈ fpp, ∃ o, s₄.heap.get? b = some o) ∧ St j s₄.heap ∧
                T (rows.drop j) ρ' σ' ∧ j ≤ rows.length ∧ m = rows.length + 1 - j
            | .brk => Ex X env names B Φ₀ s Φ Q .next s₄
            | .ret v => Ex X env names B Φ₀ s Φ Q (.ret v) s₄) (notedBy (model X.prog X.w) A env fun e s'' => cameBackBy (model X.prog X.w) A env E e s'') s₃) No s₂) rows[j] hrow st' fun v h₁ tk₁ hG hst₁ hk₁ => ?_) ?_ fun xx xx h => h.elim
    rotate_left
    · rintro r s₁ ⟨v, rfl, hv⟩
      exact wpAny_mono hv (fun xx s₂ h₂ => wpAny_mono h₂ (fun xx s₃ h₃ => wpAny_mono h₃ (fun f s₄ h₄ => by cases f <;> exact h₄) fun xx xx h => h) fun xx xx h => h.elim) fun xx xx h => h.elim
    have al₁ : ∀ b ∈ fpp, ∃ o, h₁.get? b = some o := fun b hb => by
      by_cases hw : b ∈ wr
      · exact fd.live _ _ hst₁ b hw
      · obtain ⟨o, ho⟩ := al' b hb; exact ⟨o, hk₁ b o hw ho⟩
    have I₁' := Inv.writeX (h' := h₁) O I' al' wsub hk₁
    refine assign_got (s := { s with heap := h₁, toks := tk₁ }) hcm hr eo he ht (hrl _ (List.getElem_mem hlt)) (hG.mono le') I₁' fun s₃ hs₃ I₃ => ?_
    obtain ⟨h₃, tk₃, rfl⟩ := hs₃
    obtain ⟨same₃, eqB⟩ := Bx_same al₁ I₃
    have frz : ∀ b, b ∈ fp → b ∉ fpp → ∃ o, Φ₁ b = some o := fun b hb hn => by
      cases e : Φ₁ b with
      | none => exact absurd ((mem b).mpr ⟨hb, e⟩) hn
      | some o => exact ⟨o, rfl⟩
    have st₃ : St (j + 1) h₃ := fd.frame _ _ _ hst₁ fun b hb o e => by
      by_cases hf : b ∈ fpp
      · exact (same₃ b hf).trans e
      · obtain ⟨o', ho'⟩ := frz b hb hf
        have e1 := (I₁'.ok.frz b o' (le' b o' ho')).1
        rw [e1] at e; cases e
        exact (I₃.ok.frz b o (le' b o ho')).1
    have hdrop : rows.drop j = rows[j] :: rows.drop (j + 1) := List.drop_eq_getElem_cons hlt
    rw [hdrop] at q'
    have al₃ : ∀ b ∈ fpp, ∃ o, h₃.get? b = some o := fun b hb => by rw [same₃ b hb]; exact al₁ b hb
    refine wpAny_mono (hturn _ _ ρ' σ' Φ' _ (Bx B fpp h₁) q' (Bx_le O) (fun ρ σ Φ h I => I.ofX O) I₃ ⟨h₃, tk₃, rfl⟩ (st.mono.trans le')) ?_ fun xx xx h => h
    rintro f s₄ ⟨fl, ρ₄, σ₄, Φ₄, ⟨h₄, tk₄, rfl⟩, I₄, le₄, fr, q₄⟩
    cases fl with
    | next =>
      cases f <;> simp only [FlRel] at fr
      obtain ⟨same₄, eqB₄⟩ := Bx_same al₁ I₄
      refine ⟨rows.length + 1 - (j + 1), meas_lt hlt, j + 1, ρ₄, σ₄, Φ₄, ⟨h₄, tk₄, rfl⟩, ?_, le'.trans le₄, fun b hb => ?_, ?_, q₄, hlt, rfl⟩
      · show Inv X env names (Bx B fpp h₄) Φ₀ ρ₄ σ₄ Φ₄ h₄
        rw [eqB₄]; exact I₄
      · show ∃ o, h₄.get? b = some o
        rw [same₄ b hb]; exact al₁ b hb
      · refine fd.frame _ _ _ hst₁ fun b hb o e => ?_
        by_cases hf : b ∈ fpp
        · exact (same₄ b hf).trans e
        · obtain ⟨o', ho'⟩ := frz b hb hf
          have e1 := (I₁'.ok.frz b o' (le' b o' ho')).1
          rw [e1] at e; cases e
          exact (I₄.ok.frz b o (le₄ b o (le' b o ho'))).1
    | ret d' =>
      cases f <;> simp only [FlRel] at fr
      exact ⟨.ret d', ρ₄, σ₄, Φ₄, ⟨h₄, tk₄, rfl⟩, I₄.ofX O, st.mono.trans (le'.trans le₄), fr, q₄⟩
  · have hje : j = rows.length := eq_of_ge hlt hj
    subst hje
    refine wpAny_mono (fd.done _ (fun s₁ => Ex X env names B Φ₀ s Φ Q .next s₁) st' fun h₁ tk₁ hk₁ => ?_) (by rintro r s₁ ⟨rfl, h⟩; exact wpAny_execs_nil h) fun xx xx h => h.elim
    have I₁' := Inv.writeX (h' := h₁) O I' al' wsub hk₁
    simp only [List.drop_length] at q'
    exact ⟨.next, ρ', σ', Φ', ⟨h₁, tk₁, rfl⟩, I₁'.ofX O, st.mono.trans le', trivial, hend _ _ q'⟩

theorem SS_for {target : Expr} {is : List Nat} {iter : Expr} {it : It} {body : List Stmt} {mb : List S} {pos : Pos} (ht : TgtOk names sc target is) (hit : SI X n sc names target iter it is.length) (hb : SSs X n sc names body mb) (hs : notSet iter = true) :
    SS X n sc names (.For target iter body [] pos) (.for_ is it mb) := by
  intro env A s B Φ₀ ρ σ Φ Q he eo hr I h
  refine for_core (T := fun rows ρ σ => forT (mExecs X n mb) is rows ρ σ Q) ht hit hs he eo hr I h (fun xx xx h => h) fun r rs ρ' σ' Φ' s' B' q xx xx I' xx xx => ?_
  obtain ⟨P, q, hret, hnext⟩ := q
  refine wpAny_mono (hb env A s' B' Φ₀ _ σ' Φ' _ he eo hr I' q) ?_ fun xx xx h => h.elim
  rintro f s₄ ⟨fl, ρ₄, σ₄, Φ₄, hs₄, I₄, le₄, fr, q₄⟩
  refine ⟨fl, ρ₄, σ₄, Φ₄, hs₄, I₄, le₄, fr, ?_⟩
  cases fl with
  | next => exact hnext _ _ q₄
  | ret d => exact hret _ _ _ q₄
end
section
variable {X : Cx} {n : Nat} {sc : Scope} {names : List Str}

theorem Feeder.ofWalks {A : Around} {x : Str} {p : Pos} {rows : List (List D)} {σ : Sg} {Φ : Fz} {s₀ s : Shared} {I : Addr} {fp wr : List Addr} {P : Nat → Value → Prop} {St : Nat → Heap → Prop}
    (W : Walks X.prog X.w A I fp wr rows.length P St) (st0 : St 0 s.heap) (rd : ∀ j v, j < rows.length → P j v → ∃ d, rows[j]? = some [d] ∧ Rd Φ v d) (inn : ∀ b ∈ fp, ∃ o, s.heap.get? b = some o)
    (new : ∀ b ∈ fp, Φ b ≠ none ∨ (s₀.heap.get? b = none ∧ σ b = none ∧ Φ b = none)) (wnew : ∀ b ∈ wr, s₀.heap.get? b = none ∧ σ b = none ∧ Φ b = none) (live : ∀ j h, St j h → ∀ b ∈ wr, ∃ o, h.get? b = some o) :
    Feeder X A (.Name x p) rows σ Φ s₀ s I fp wr St where
  sub := W.sub
  frame := W.frame
  next := fun j s' K r hr hst h => by
    have hj : j < rows.length := (List.getElem?_eq_some_iff.mp hr).1
    refine W.item j s' _ _ hj hst fun v h₁ tk hP hst₁ hk => ⟨v, rfl, wpAny_pure (h v h₁ tk ?_ hst₁ hk)⟩
    obtain ⟨d, hd, r'⟩ := rd j v hj hP
    rw [hr] at hd; cases hd
    exact ⟨d, rfl, r'⟩
  done := fun s' K hst h => W.done s' _ _ hst fun h₁ tk hk => ⟨rfl, h h₁ tk hk⟩
  self := fun s' K hst h => W.self 0 s' _ _ hst h
  st0 := st0
  inn := inn
  new := new
  wnew := wnew
  live := live

theorem Feeder.ofWalksU {A : Around} {elts : List Expr} {k : Nat} {p : Pos} {rows : List (List D)} {σ : Sg} {Φ : Fz} {s₀ s : Shared} {I : Addr} {fp wr : List Addr} {P : Nat → Array Value → Prop} {St : Nat → Heap → Prop} {Mid : Nat → Addr → Heap → Prop}
    (W : WalksU X.prog X.w A I fp wr rows.length P St Mid) (st0 : St 0 s.heap) (rd : ∀ j vs, j < rows.length → P j vs → ∃ r, rows[j]? = some r ∧ RdAll Φ vs.toList r) (inn : ∀ b ∈ fp, ∃ o, s.heap.get? b = some o)
    (new : ∀ b ∈ fp, Φ b ≠ none ∨ (s₀.heap.get? b = none ∧ σ b = none ∧ Φ b = none)) (wnew : ∀ b ∈ wr, s₀.heap.get? b = none ∧ σ b = none ∧ Φ b = none) (live : ∀ j h, St j h → ∀ b ∈ wr, ∃ o, h.get? b = some o) :
    Feeder X A (.Tuple elts k p) rows σ Φ s₀ s I fp wr St where
  sub := W.sub
  frame := W.frame
  next := fun j s' K r hr hst h => by
    have hj : j < rows.length := (List.getElem?_eq_some_iff.mp hr).1
    refine W.item j s' _ _ hj hst fun T vals h₁ tk hP hT hm hk => ⟨.ref T, rfl, W.go elts k p j T _ _ _ hm fun h₂ hst₂ hk₂ => h (.ref T) h₂ tk ?_ hst₂ fun b o hb e => hk₂ b o hb (hk b o hb e)⟩
    obtain ⟨r', hr', ra⟩ := rd j vals hj hP
    rw [hr] at hr'; cases hr'
    exact ⟨T, vals, rfl, hT.at fun o e => hk₂ T o (W.apart j T h₁ hm) e, ra⟩
  done := fun s' K hst h => W.done s' _ _ hst fun h₁ tk hk => ⟨rfl, h h₁ tk hk⟩
  self := fun s' K hst h => W.self 0 s' _ _ hst h
  st0 := st0
  inn := inn
  new := new
  wnew := wnew
  live := live

theorem SI_seq {x : Expr} {e : E} {y : Str} {p : Pos} (hcm : X.calm = true) (hx : SE X n sc names x e) : SI X n sc names (.Name y p) x (.seq e) 1 := by
  intro env A s Φ ρ σ Q he eo hroom ok F h
  refine wpAny_mono (hx env A s Φ ρ σ _ he eo hroom ok F h) ?_ fun xx xx h => h.elim
  rintro v s₁ ⟨d, σ₁, Φ₁, st, r, q⟩
  obtain ⟨rows, hrows, q⟩ := seqT_of q
  have hn := size_none s₁.heap
  cases hrows with
  | many rows h1 => exact absurd rfl h1
  | one ds =>
    obtain ⟨a, rfl⟩ := r.lst_ref
    obtain ⟨vs, hl, ra, hfa⟩ := r.isList st.ok
    have hlen := ra.length
    simp only [Array.length_toList] at hlen
    have ha : ∃ o, s₁.heap.get? a = some o := let ⟨o, ho, _⟩ := hl; ⟨o, ho⟩
    have hne : a ≠ s₁.heap.objs.size := fun q => by obtain ⟨o, ho⟩ := ha; rw [q, hn] at ho; cases ho
    refine wpAny_pyIter_list hl ?_
    have st₂ := push_step st.ok { cls := .type "list_iterator", data := .fields #[.ref a, .int 0 0] }
    have hrl : (ds.map fun d => [d]).length = vs.size := by simp [hlen]
    refine ⟨_, σ₁, Φ₁, st.trans st₂, q, by simp, s₁.heap.objs.size, [s₁.heap.objs.size, a], [s₁.heap.objs.size], (fun i h => h.IsListIter s₁.heap.objs.size a i ∧ h.IsList a vs), rfl, ?_, hcm⟩
    refine .ofWalks (P := fun i v => vs[i]? = some v) (hrl ▸ Walks.list (hroom.1 hcm) s₁.heap.objs.size a hne vs) ⟨⟨_, Heap.get?_push_size _ rfl, rfl, rfl⟩, hl.push _⟩ (fun j v hj hv => ?_) (fun b hb => ?_) (fun b hb => ?_) (fun b hb => ?_) (fun j h hst b hb => ?_)
    · obtain ⟨d, hd, r⟩ := ra.get' (k := j) (v := v) (by simpa using hv)
      exact ⟨d, by simp [hd], r⟩
    · rcases List.mem_cons.mp hb with rfl | hb
      · exact ⟨_, Heap.get?_push_size _ rfl⟩
      · rcases List.mem_cons.mp hb with rfl | hb
        · obtain ⟨o, ho⟩ := ha; exact ⟨o, Heap.get?_push_of_some _ ho⟩
        · cases hb
    · rcases List.mem_cons.mp hb with rfl | hb
      · exact .inr ⟨st.live _ hn, st.ok.freshS hn, st.ok.freshF hn⟩
      · rcases List.mem_cons.mp hb with rfl | hb
        · exact .inl hfa
        · cases hb
    · rcases List.mem_cons.mp hb with rfl | hb
      · exact ⟨st.live _ hn, st.ok.freshS hn, st.ok.freshF hn⟩
      · cases hb
    · rcases List.mem_cons.mp hb with rfl | hb
      · obtain ⟨o, ho, _⟩ := hst.1; exact ⟨o, ho⟩
      · cases hb
  | tup ds =>
    obtain ⟨a, rfl⟩ := r.tup_ref
    obtain ⟨vs, hl, ra, hfa⟩ := r.isTup st.ok
    have hlen := ra.length
    simp only [Array.length_toList] at hlen
    have ha : ∃ o, s₁.heap.get? a = some o := let ⟨o, ho, _⟩ := hl; ⟨o, ho⟩
    have hne : a ≠ s₁.heap.objs.size := fun q => by obtain ⟨o, ho⟩ := ha; rw [q, hn] at ho; cases ho
    refine wpAny_pyIter_tuple hl ?_
    have st₂ := push_step st.ok { cls := .type "tuple_iterator", data := .fields #[.ref a, .int 0 0] }
    have hrl : (ds.map fun d => [d]).length = vs.size := by simp [hlen]
    refine ⟨_, σ₁, Φ₁, st.trans st₂, q, by simp, s₁.heap.objs.size, [s₁.heap.objs.size, a], [s₁.heap.objs.size], (fun i h => h.IsTupleIter s₁.heap.objs.size a i ∧ h.IsTuple a vs), rfl, ?_, hcm⟩
    refine .ofWalks (P := fun i v => vs[i]? = some v) (hrl ▸ Walks.tuple (hroom.1 hcm) s₁.heap.objs.size a hne vs) ⟨⟨_, Heap.get?_push_size _ rfl, rfl, rfl⟩, Heap.IsTuple.push hl _⟩ (fun j v hj hv => ?_) (fun b hb => ?_) (fun b hb => ?_) (fun b hb => ?_) (fun j h hst b hb => ?_)
    · obtain ⟨d, hd, r⟩ := ra.get' (k := j) (v := v) (by simpa using hv)
      exact ⟨d, by simp [hd], r⟩
    · rcases List.mem_cons.mp hb with rfl | hb
      · exact ⟨_, Heap.get?_push_size _ rfl⟩
      · rcases List.mem_cons.mp hb with rfl | hb
        · obtain ⟨o, ho⟩ := ha; exact ⟨o, Heap.get?_push_of_some _ ho⟩
        · cases hb
    · rcases List.mem_cons.mp hb with rfl | hb
      · exact .inr ⟨st.live _ hn, st.ok.freshS hn, st.ok.freshF hn⟩
      · rcases List.mem_cons.mp hb with rfl | hb
        · exact .inl hfa
        · cases hb
    · rcases List.mem_cons.mp hb with rfl | hb
      · exact ⟨st.live _ hn, st.ok.freshS hn, st.ok.freshF hn⟩
      · cases hb
    · rcases List.mem_cons.mp hb with rfl | hb
      · obtain ⟨o, ho, _⟩ := hst.1; exact ⟨o, ho⟩
      · cases hb

theorem SI_range {x : Expr} {e : E} {y : Str} {py p pos : Pos} (hcm : X.calm = true) (G : Gnd X) (hx : SE X n sc names x e) (hk : sc.names.lookup ("range" : Str) = some .globalImplicit) (hs : notStar x = true) :
    SI X n sc names (.Name y py) (.Call (.Name "range" p) [x] [] pos) (.range e) 1 := by
  intro env A s Φ ρ σ Q he eo hroom ok F h
  refine range_obj G hx hk hs he eo hroom ok F h (fun d σ q => ?_) ?_
  · obtain ⟨i, e, _⟩ := D.int_of q; exact ⟨i, e⟩
  intro r i t s₁ s₂ σ₁ Φ₁ st st₂ hnr q hr
  obtain ⟨u, w, hr⟩ := hr
  obtain ⟨_, q⟩ := q
  have hn := size_none s₂.heap
  have stt := st.trans st₂
  refine wpAny_pyIter_range hr (small_one (by decide) (by decide) q.1 q.2.1) ?_
  have hsz : Builtin.Range.rangeSize 0 i 1 = (i.toNat : Int) := by rw [rangeSize_one]; split <;> omega
  have st₃ := push_step st₂.ok { cls := .type "range_iterator", data := .fields #[rawInt 0, rawInt (Builtin.Range.rangeSize 0 i 1), rawInt 1] }
  have hrl : ((List.range i.toNat).map fun (j : Nat) => [D.int (j : Int)]).length = i.toNat := by simp
  refine ⟨_, σ₁, Φ₁, stt.trans st₃, q.2.2, by simp, s₂.heap.objs.size, [s₂.heap.objs.size], [s₂.heap.objs.size], (fun j h => IsRangeIter h s₂.heap.objs.size (0 + (j : Nat) * 1) ((i.toNat : Int) - (j : Nat)) 1), rfl, ?_, hcm⟩
  refine .ofWalks (P := fun (j : Nat) v => ∃ t, v = .int (0 + (j : Int) * 1) t) (by rw [hrl]; exact Walks.range (hroom.1 hcm) s₂.heap.objs.size 0 1 i.toNat) ?_ (fun j v hj hv => ?_) (fun b hb => ?_) (fun b hb => ?_) (fun b hb => ?_) (fun j h hst b hb => ?_)
  · have e1 : (0 + ((0 : Nat) : Int) * 1) = 0 := by simp
    have e2 : ((i.toNat : Int) - ((0 : Nat) : Int)) = Builtin.Range.rangeSize 0 i 1 := by rw [hsz]; simp
    rw [e1, e2]
    exact Heap.get?_push_size _ rfl
  · obtain ⟨t, rfl⟩ := hv
    rw [hrl] at hj
    refine ⟨.int j, by simp [hj], ?_⟩
    have : (0 + (j : Int) * 1) = j := by omega
    rw [this]
    exact .int _ _
  · rcases List.mem_cons.mp hb with rfl | hb
    · exact ⟨_, Heap.get?_push_size _ rfl⟩
    · cases hb
  · rcases List.mem_cons.mp hb with rfl | hb
    · exact .inr ⟨stt.live _ hn, st₂.ok.freshS hn, st₂.ok.freshF hn⟩
    · cases hb
  · rcases List.mem_cons.mp hb with rfl | hb
    · exact ⟨stt.live _ hn, st₂.ok.freshS hn, st₂.ok.freshF hn⟩
    · cases hb
  · rcases List.mem_cons.mp hb with rfl | hb
    · exact ⟨_, hst⟩
    · cases hb
end
/-! ## comprehensions -/

theorem Step.write {g : Heap} {s s' : Shared} {Φ Φ' : Fz} {σ σ' : Sg} (x : Step g s s' Φ Φ' σ σ') (okS : Ok g σ Φ s.heap) {h₁ : Heap} {tk : Nat} {W : List Addr} (hW : ∀ b ∈ W, s.heap.get? b = none ∧ σ' b = none ∧ Φ' b = none)
    (hk : ∀ b o, b ∉ W → s'.heap.get? b = some o → h₁.get? b = some o) : Step g s { s' with heap := h₁, toks := tk } Φ Φ' σ σ' := by
  obtain ⟨hp, t0, rfl⟩ := x.same
  refine ⟨⟨h₁, tk, rfl⟩, fun b o e hs => hk b o (fun q => ?_) (x.keep b o e hs), x.mono, ⟨fun b o e => ⟨hk b o (fun q => ?_) (x.ok.base b o e).1, (x.ok.base b o e).2⟩, fun b o e => ⟨hk b o (fun q => ?_) (x.ok.frz b o e).1, (x.ok.frz b o e).2⟩,
    fun b t e => (x.ok.trk b t e).mono (Fz.le.refl _) fun o ho => hk b o (fun q => ?_) ho⟩, x.newS, x.newF, fun b hb => ?_⟩
  · rw [(hW b q).1] at e; cases e
  · have := (okS.base b o e).1; rw [(hW b q).1] at this; cases this
  · rw [(hW b q).2.2] at e; cases e
  · rw [(hW b q).2.1] at e; cases e
  · by_cases q : b ∈ W
    · exact (hW b q).1
    · cases e : hp.get? b with
      | none => exact x.live b e
      | some o => have := hk b o q e; rw [show h₁.get? b = none from hb] at this; cases this

theorem FrameX.kept {g : Heap} {env : Env} {names : List Str} {ρ : List MV} {σ : Sg} {Φ : Fz} {h h' : Heap} {m cm : Str → Option Value} {μ : Nat → Option Addr} (F : FrameX g env names ρ σ Φ h m cm μ)
    (ko : ∀ a o, Own env μ a → h.get? a = some o → h'.get? a = some o) : FrameX g env names ρ σ Φ h' m cm μ where
  nd := F.nd
  len := F.len
  ns := F.ns.at' fun o e => ko _ o (.inl rfl) e
  cell := fun n c hc => let ⟨o, ho, hd⟩ := F.cell n c hc; ⟨o, ko c o (.inr (.inl ⟨n, mem_of_lookup hc⟩)) ho, hd⟩
  cellsIn := fun n c hc => let ⟨o, ho⟩ := F.cellsIn n c hc; ⟨o, ko c o (.inr (.inl ⟨n, hc⟩)) ho⟩
  hasCell := F.hasCell
  apart := F.apart
  offc := F.offc
  priv := F.priv
  vars := fun j y hj hacc => (F.vars j y hj hacc).mono (Fz.le.refl _) fun a o e ho => ko a o (.inr (.inr ⟨j, e⟩)) ho
  inj := F.inj
  offm := F.offm
  live := fun j a e => let ⟨o, ho⟩ := F.live j a e; ⟨o, ko a o (.inr (.inr ⟨j, e⟩)) ho⟩

noncomputable def unbAll (ρ : List MV) : List Nat → List MV
  | [] => ρ
  | i :: is => unbAll (ρ.set i .unb) is

theorem unbAll_len (is : List Nat) : ∀ ρ : List MV, (unbAll ρ is).length = ρ.length := by
  induction is with
  | nil => intro ρ; rfl
  | cons i is ih => intro ρ; rw [unbAll, ih, List.length_set]
theorem setAll_len : ∀ (is : List Nat) (ds : List D) (ρ : List MV), (setAll ρ is ds).length = ρ.length
  | [], _, ρ => by simp [setAll]
  | _ :: _, [], ρ => by simp [setAll]
  | i :: is, d :: ds, ρ => by simp [setAll, setAll_len is ds]
theorem unbAll_out (is : List Nat) : ∀ (ρ : List MV) (j : Nat), j ∉ is → (unbAll ρ is)[j]? = ρ[j]? := by
  induction is with
  | nil => intro ρ j _; rfl
  | cons i is ih =>
    intro ρ j hj
    simp only [List.mem_cons, not_or] at hj
    rw [unbAll, ih _ _ hj.2, List.getElem?_set_ne (Ne.symm hj.1)]
theorem unbAll_in (is : List Nat) : ∀ (ρ : List MV) (j : Nat), j ∈ is → (unbAll ρ is).getD j .unb = .unb := by
  induction is with
  | nil => intro ρ j h; cases h
  | cons i is ih =>
    intro ρ j hj
    rw [unbAll]
    by_cases q : j ∈ is
    · exact ih _ _ q
    · have hji : j = i := by
        rcases List.mem_cons.mp hj with h | h
        · exact h
        · exact absurd h q
      subst hji
      have := unbAll_out is (ρ.set j .unb) j q
      simp only [List.getD, this]
      by_cases hl : j < ρ.length
      · simp [hl]
      · rw [List.getElem?_eq_none (by simpa using hl)]; rfl
theorem setAll_agree : ∀ (is : List Nat) (ds : List D) (ρ₁ ρ₂ : List MV), ds.length = is.length → ρ₁.length = ρ₂.length → (∀ j, j ∉ is → ρ₁[j]? = ρ₂[j]?) → setAll ρ₁ is ds = setAll ρ₂ is ds
  | [], ds, ρ₁, ρ₂, _, _, h => by
    simp only [setAll]
    exact List.ext_getElem? fun j => h j (by simp)
  | _ :: _, [], _, _, hl, _, _ => by simp at hl
  | i :: is, d :: ds, ρ₁, ρ₂, hl, hlen, h => by
    simp only [setAll]
    refine setAll_agree is ds _ _ (by simpa using hl) (by simpa using hlen) fun j hj => ?_
    by_cases q : i = j
    · subst q
      by_cases hi : i < ρ₁.length
      · rw [List.getElem?_set_self hi, List.getElem?_set_self (hlen ▸ hi)]
      · rw [List.getElem?_eq_none (by simpa using hi), List.getElem?_eq_none (by simp; omega)]
    · rw [List.getElem?_set_ne q, List.getElem?_set_ne q]
      exact h j (by simp only [List.mem_cons, not_or]; exact ⟨Ne.symm q, hj⟩)
theorem setAll_unb {is : List Nat} {ds : List D} {ρ : List MV} (h : ds.length = is.length) : setAll (unbAll ρ is) is ds = setAll ρ is ds :=
  setAll_agree is ds _ _ h (unbAll_len is ρ) fun j hj => unbAll_out is ρ j hj

theorem setAll_out : ∀ (is : List Nat) (ds : List D) (ρ : List MV) (j : Nat), j ∉ is → (setAll ρ is ds)[j]? = ρ[j]?
  | [], ds, ρ, j, _ => by simp [setAll]
  | _ :: _, [], ρ, j, _ => by simp [setAll]
  | i :: is, d :: ds, ρ, j, h => by
    simp only [List.mem_cons, not_or] at h
    rw [setAll, setAll_out is ds _ j h.2, List.getElem?_set_ne (Ne.symm h.1)]

theorem FrameX.weaken {g : Heap} {env : Env} {names : List Str} {ρ₁ ρ₂ : List MV} {σ : Sg} {Φ : Fz} {h : Heap} {m cm : Str → Option Value} {μ : Nat → Option Addr} (F : FrameX g env names ρ₁ σ Φ h m cm μ)
    (hl : ρ₂.length = ρ₁.length) (hw : ∀ j, ρ₂.getD j .unb = ρ₁.getD j .unb ∨ (ρ₂.getD j .unb = .unb ∧ μ j = none)) : FrameX g env names ρ₂ σ Φ h m cm μ :=
  { F with
    len := hl.trans F.len
    vars := fun j y hj hacc => by
      rcases hw j with e | ⟨e1, e2⟩
      · rw [e]; exact F.vars j y hj hacc
      · rw [e1]; exact e2 }

section
variable {X : Cx} {n : Nat} {sc : Scope} {names : List Str}

structure CF (X : Cx) (env' : Env) (names : List Str) (s : Shared) (Φ : Fz) (σ : Sg) (cm : Str → Option Value) (μ : Nat → Option Addr) (ρ' : List MV) (s' : Shared) (Φ' : Fz) (σ' : Sg) : Prop where
  step : Step X.g s s' Φ Φ' σ σ'
  fr : ∃ m, FrameX X.g env' names ρ' σ' Φ' s'.heap m cm μ

variable {env' : Env} {s : Shared} {Φ : Fz} {σ : Sg} {cm : Str → Option Value} {μ : Nat → Option Addr} {A : Around}

theorem CF.store {ρ' : List MV} {s' : Shared} {Φ' : Fz} {σ' : Sg} {i : Nat} {x : Str} {v : Value} {d : D} {K : Unit → Shared → Prop} (c : CF X env' names s Φ σ cm μ ρ' s' Φ' σ') (okS : Ok X.g σ Φ s.heap) (hC : s.heap.get? env'.locals = none) (eo : EnvOk env')
    (hi : names[i]? = some x) (hk : env'.kindOf x = some .local) (hμ : μ i = none) (r : Rd Φ' v d)
    (h : ∀ h₁ tk, CF X env' names s Φ σ cm μ (ρ'.set i (.val d)) { s' with heap := h₁, toks := tk } Φ' σ' → (∀ b o, b ≠ env'.locals → s'.heap.get? b = some o → h₁.get? b = some o) → K () { s' with heap := h₁, toks := tk }) :
    wpAny (model X.prog X.w) A (storeName env' x v) K No s' := by
  obtain ⟨m, F⟩ := c.fr
  refine wpAny_storeName_local hk F.ns (fun h' hn hs => ?_) (by rw [eo.kind]; rfl)
  have p := F.priv env'.locals (.inl rfl)
  refine h h' _ ⟨c.step.write okS (W := [env'.locals]) (fun b hb => ?_) fun b o hb e => (hs.2 b (by simpa using hb)).trans e, (fun y => if y = x then some v else m y), ?_⟩ fun b o hb e => (hs.2 b hb).trans e
  · have : b = env'.locals := by simpa using hb
    subst this
    exact ⟨hC, p.1, p.2.1⟩
  · have hm : (fun j => if j = i then none else μ j) = μ := funext fun j => by
      by_cases q : j = i
      · simp [q, hμ]
      · simp [q]
    have hlv : ∃ o, h'.get? env'.locals = some o := by obtain ⟨o, _, _, ho, _⟩ := hn; exact ⟨o, ho⟩
    have := F.put (μi := none) (mv := .val d) hi (.inl rfl) hs hn (fun n c hc => (F.cell n c hc).sameBut hs (F.offc n c (mem_of_lookup hc))) hlv (look_put hk) (fun y hy => look_put_ne hy) ⟨rfl, v, rfl, r⟩ (fun a e => by cases e)
    rw [hm] at this
    exact this

noncomputable def TgtsL (names : List Str) (sc' : Scope) : List Expr → List Nat → Prop
  | [], [] => True
  | .Name x _ :: es, i :: is => names[i]? = some x ∧ sc'.names.lookup x = some .local ∧ TgtsL names sc' es is
  | _, _ => False
theorem TgtsL.tgts {sc' : Scope} : ∀ {es : List Expr} {is : List Nat}, TgtsL names sc' es is → Tgts names sc' es is
  | [], [], _ => trivial
  | [], _ :: _, h => by simp [TgtsL] at h
  | e :: es, [], h => by cases e <;> simp [TgtsL] at h
  | e :: es, i :: is, h => by
    cases e <;> simp only [TgtsL] at h
    exact ⟨h.1, by simp [stS, h.2.1], h.2.2.tgts⟩
noncomputable def TgtOkL (names : List Str) (sc' : Scope) : Expr → List Nat → Prop
  | .Name x _, is => ∃ i, is = [i] ∧ names[i]? = some x ∧ sc'.names.lookup x = some .local
  | .Tuple elts _ _, is => TgtsL names sc' elts is
  | _, _ => False

set_option tactic.hygienic true in
theorem CF.assign_all {sc' : Scope} (eo : EnvOk env') (he : env'.scope = sc') (okS : Ok X.g σ Φ s.heap) (hC : s.heap.get? env'.locals = none) {Φ' : Fz} {σ' : Sg} :
    ∀ {es : List Expr} {is : List Nat} {vs : List Value} {ds : List D} {ρ' : List MV} {s' : Shared} {K : Unit → Shared → Prop}, TgtsL names sc' es is → (∀ i ∈ is, μ i = none) → ds.length = is.length → RdAll Φ' vs ds →
    CF X env' names s Φ σ cm μ ρ' s' Φ' σ' →
    (∀ h₁ tk, CF X env' names s Φ σ cm μ (setAll ρ' is ds) { s' with heap := h₁, toks := tk } Φ' σ' → (∀ b o, b ≠ env'.locals → s'.heap.get? b = some o → h₁.get? b = some o) → K () { s' with heap := h₁, toks := tk }) →
    wpAny (model X.prog X.w) A (assignInOrder ((assignEach es env').map (·.2)) vs) K No s'
  | [], [], vs, ds, ρ', s', K, _, _, hlen, r, c, h => by
    have : ds = [] := by simpa using hlen
    subst this
    cases r
    exact wpAny_pure (h s'.heap s'.toks (by simpa [setAll] using c) fun xx xx xx e => e)
  | [], _ :: _, _, _, _, _, _, ht, _, _, _, _, _ => by simp [TgtsL] at ht
  | e :: _, [], _, _, _, _, _, ht, _, _, _, _, _ => by cases e <;> simp [TgtsL] at ht
  | e :: es, i :: is, vs, ds, ρ', s', K, ht, hμ, hlen, r, c, h => by
    cases e <;> simp only [TgtsL] at ht
    rename_i x p
    cases r with
    | nil => simp at hlen
    | cons r1 r2 =>
      show wpAny _ A (do holding _ (assign (.Name x p) env' _); assignInOrder ((assignEach es env').map (·.2)) _) _ _ s'
      refine wpAny_bind (wpAny_holding (wpAny_assign_Name (c.store okS hC eo ht.1 (by rw [Env.kindOf_sc he]; exact ht.2.1) (hμ i (.head _)) r1 fun h₁ tk c₁ k₁ => ?_)))
      refine CF.assign_all eo he okS hC ht.2.2 (fun j hj => hμ j (.tail _ hj)) (by simpa using hlen) r2 c₁ fun h₂ tk₂ c₂ k₂ => ?_
      exact h h₂ tk₂ (by simpa [setAll] using c₂) fun b o hb e => k₂ b o hb (k₁ b o hb e)

theorem CF.assign_got {sc' : Scope} {target : Expr} {is : List Nat} {v : Value} {r : List D} {ρ' : List MV} {s' : Shared} {Φ' : Fz} {σ' : Sg} {K : Unit → Shared → Prop} (hcm : X.calm = true) (hr : Room X n A) (eo : EnvOk env') (he : env'.scope = sc') (okS : Ok X.g σ Φ s.heap)
    (hC : s.heap.get? env'.locals = none) (ht : TgtOkL names sc' target is) (hμ : ∀ i ∈ is, μ i = none) (hl : r.length = is.length) (hg : Got Φ' s'.heap target v r) (c : CF X env' names s Φ σ cm μ ρ' s' Φ' σ')
    (h : ∀ h₁ tk, CF X env' names s Φ σ cm μ (setAll ρ' is r) { s' with heap := h₁, toks := tk } Φ' σ' → (∀ b o, b ≠ env'.locals → s'.heap.get? b = some o → h₁.get? b = some o) → K () { s' with heap := h₁, toks := tk }) :
    wpAny (model X.prog X.w) A (assign target env' v) K No s' := by
  cases target <;> simp only [Got, TgtOkL] at hg ht
  · obtain ⟨d, rfl, rd⟩ := hg
    obtain ⟨i, rfl, hi, hk⟩ := ht
    exact wpAny_assign_Name (c.store okS hC eo hi (by rw [Env.kindOf_sc he]; exact hk) (hμ i (by simp)) rd fun h₁ tk c₁ k₁ => h h₁ tk (by simpa [setAll] using c₁) k₁)
  · obtain ⟨T, vals, rfl, hT, ra⟩ := hg
    have al := assignEach_len (env := env') ht.tgts
    have rl := ra.length
    refine wpAny_assign_Tuple (hr.1 hcm) hT (by rw [al.1, ← hl, ← rl]; simp) al.2 fun h' hx => ?_
    have k' : ∀ b o, s'.heap.get? b = some o → h'.get? b = some o := fun b o e => hx b o (Nat.ne_of_lt (Heap.lt_size e)) e
    have st' : Step X.g s' { s' with heap := h' } Φ' Φ' σ' σ' := Step.keeps (tk := s'.toks) c.step.ok k'
    have c' : CF X env' names s Φ σ cm μ ρ' { s' with heap := h' } Φ' σ' := ⟨c.step.trans st', let ⟨m, F⟩ := c.fr; ⟨m, F.step st'⟩⟩
    exact CF.assign_all eo he okS hC ht hμ hl ra c' fun h₁ tk c₁ k₁ => h h₁ tk c₁ fun b o hb e => k₁ b o hb (k' b o e)
end
section
variable {X : Cx} {n : Nat} {sc : Scope} {names : List Str}

theorem compLoop_any {prog : Program} {w : World} {A : Around} {R : Result → Shared → Prop} {s : Shared} {elt target iter : Expr} {ifs : List Expr} {scope : Scope} {pos : Pos} {it acc : Value} {env : Env} (I : Nat → Shared → Prop)
    (turn : ∀ n s, I n s → wpAny (model prog w) A (pyNext it) (fun r s₁ => match r with
      | none => R (.ok .next) s₁
      | some v => wpAny (model prog w) A (letOwnedTupleGo target it v) (fun xx s₁' => wpAny (model prog w) A (assign target env v) (fun xx s₂ =>
          wpAny (model prog w) A (forIn ifs true fun c r => if r = true then do let ok ← isTrue c env (eval c env); pure (ForInStep.yield ok) else pure (ForInStep.yield r)) (fun ok s₃ =>
            if ok = true then wpAny (model prog w) A (eval elt env) (fun x s₄ => wpAny (model prog w) A (call (.builtin "list.append") [acc, x]) (fun xx s₅ => ∃ m, m < n ∧ I m s₅) No s₄) No s₃
            else ∃ m, m < n ∧ I m s₃) No s₂) No s₁') No s₁) No s)
    (n : Nat) (h : I n s) : codeAny (model prog w) A (.compLoop (.ListComp elt [⟨target, iter, ifs, 0⟩] scope pos) 0 it acc env) R s := by
  refine codeAny_loop rfl I (fun n s hI => ?_) n h
  show wpAny _ A ((compTurn (.ListComp elt [⟨target, iter, ifs, 0⟩] scope pos) 0 it acc env).onRaise (fun x => do noteFrame x env; theTreesLotGoes x)) _ _ s
  refine wpAny_noted ?_
  rw [compTurn_list]
  refine wpAny_bind (wpAny_standAt (wpAny_bind (wpAny_mono (turn n s hI) (fun r s₁ h₁ => ?_) fun xx xx h => h.elim)))
  cases r with
  | none => exact wpAny_pure h₁
  | some v =>
    refine wpAny_bind (wpAny_mono h₁ (fun xx s₁' h₁' => ?_) fun xx xx h => h.elim)
    refine wpAny_bind (wpAny_mono h₁' (fun xx s₂ h₂ => ?_) fun xx xx h => h.elim)
    refine wpAny_bind (wpAny_mono h₂ (fun ok s₃ h₃ => ?_) fun xx xx h => h.elim)
    cases ok with
    | false => exact wpAny_bind (wpAny_pure (wpAny_pure ⟨rfl, h₃⟩))
    | true =>
      simp only [if_true] at h₃ ⊢
      exact wpAny_bind (wpAny_bind (wpAny_mono h₃ (fun x s₄ h₄ => wpAny_bind (wpAny_mono h₄ (fun xx s₅ h₅ => wpAny_pure (wpAny_pure ⟨rfl, h₅⟩)) fun xx xx h => h.elim)) fun xx xx h => h.elim))

noncomputable def rl (sc scope : Scope) : Scope :=
  { scope with names := scope.names.map fun (n, k) => if (k == .free && sc.kind == .function && sc.names.lookup n == some .cell) then (n, .cell) else (n, k) }
theorem rl_eq {env : Env} (he : env.scope = sc) (scope : Scope) : relabel scope env = rl sc scope := by
  subst he; rfl

noncomputable def clos (cells : List (Str × Addr)) : List (Str × NameKind) → List (Str × Addr) → List (Str × Addr)
  | [], acc => acc
  | (n, k) :: r, acc => if k == .free then clos cells r ((n, (cells.lookup n).getD 0) :: acc) else clos cells r acc

theorem clos_loop {env : Env} : ∀ (names : List (Str × NameKind)) (acc : List (Str × Addr)), (∀ x, (x, NameKind.free) ∈ names → (env.cells.lookup x).isSome = true) →
    (forIn names acc (fun x r => if (x.2 == NameKind.free) = true then (do let c ← cellOf env x.1; pure (ForInStep.yield ((x.1, c) :: r))) else pure (ForInStep.yield r)) : Sem (List (Str × Addr))) = pure (clos env.cells names acc)
  | [], acc, _ => by rw [List.forIn_nil]; rfl
  | (x, k) :: r, acc, h => by
    rw [List.forIn_cons]
    unfold clos
    by_cases hk : (k == NameKind.free) = true
    · have hk' : k = .free := by simpa using hk
      subst hk'
      obtain ⟨c, hc⟩ := Option.isSome_iff_exists.mp (h x (.head _))
      have e : cellOf env x = pure c := by unfold cellOf; rw [hc]
      simp only [hk, if_true, e, hc, Option.getD_some]
      exact clos_loop r _ fun y hy => h y (.tail _ hy)
    · simp only [hk]
      exact clos_loop r _ fun y hy => h y (.tail _ hy)

theorem closureFor_eq {env : Env} {scope : Scope} (h : ∀ x, (x, NameKind.free) ∈ scope.names → (env.cells.lookup x).isSome = true) : closureFor scope env = pure (clos env.cells scope.names []) := by
  unfold closureFor
  simp only []
  rw [clos_loop scope.names [] h]
  rfl

theorem clos_mem {cells : List (Str × Addr)} : ∀ (names : List (Str × NameKind)) (acc : List (Str × Addr)) (p : Str × Addr), p ∈ clos cells names acc → p ∈ acc ∨ ((p.1, NameKind.free) ∈ names ∧ p.2 = (cells.lookup p.1).getD 0)
  | [], acc, p, h => .inl h
  | (x, k) :: r, acc, p, h => by
    unfold clos at h
    by_cases hk : (k == NameKind.free) = true
    · rw [if_pos hk] at h
      have hk' : k = .free := by simpa using hk
      subst hk'
      rcases clos_mem r _ p h with h | ⟨h1, h2⟩
      · rcases List.mem_cons.mp h with h | h
        · subst h; exact .inr ⟨.head _, rfl⟩
        · exact .inl h
      · exact .inr ⟨.tail _ h1, h2⟩
    · rw [if_neg hk] at h
      rcases clos_mem r _ p h with h | ⟨h1, h2⟩
      · exact .inl h
      · exact .inr ⟨.tail _ h1, h2⟩

theorem clos_has {cells : List (Str × Addr)} : ∀ (names : List (Str × NameKind)) (acc : List (Str × Addr)) (x : Str), ((x, NameKind.free) ∈ names ∨ (acc.lookup x).isSome = true) → ((clos cells names acc).lookup x).isSome = true
  | [], acc, x, h => by
    rcases h with h | h
    · cases h
    · exact h
  | (y, k) :: r, acc, x, h => by
    unfold clos
    by_cases hk : (k == NameKind.free) = true
    · rw [if_pos hk]
      refine clos_has r _ x ?_
      rcases h with h | h
      · rcases List.mem_cons.mp h with h | h
        · cases h; exact .inr (by simp)
        · exact .inl h
      · refine .inr ?_
        rw [List.lookup_cons]
        cases x == y <;> simp [h]
    · rw [if_neg hk]
      refine clos_has r _ x ?_
      rcases h with h | h
      · rcases List.mem_cons.mp h with h | h
        · cases h; exact absurd rfl hk
        · exact .inl h
      · exact .inr h

theorem clos_pair {cells : List (Str × Addr)} : ∀ (names : List (Str × NameKind)) (acc : List (Str × Addr)), (acc.map (·.1) ++ names.map (·.1)).Nodup → ((clos cells names acc).map (·.1)).Nodup
  | [], acc, h => by simpa [clos] using h
  | (y, k) :: r, acc, h => by
    unfold clos
    by_cases hk : (k == NameKind.free) = true
    · rw [if_pos hk]
      refine clos_pair r _ ?_
      simp only [List.map_cons, List.cons_append]
      have h' : (acc.map (·.1) ++ y :: r.map (·.1)).Nodup := by simpa using h
      exact (List.perm_middle.nodup_iff).mp h'
    · rw [if_neg hk]
      refine clos_pair r acc ?_
      have h' : (acc.map (·.1) ++ y :: r.map (·.1)).Nodup := by simpa using h
      have := (List.perm_middle.nodup_iff).mp h'
      exact (List.nodup_cons.mp this).2

structure CompOk (sc scope : Scope) (names : List Str) (is : List Nat) : Prop where
  kind : scope.kind = .function
  nodup : (scope.names.map (·.1)).Nodup
  nocell : ∀ y ∈ scope.names, y.2 ≠ .cell
  free : ∀ x, (x, NameKind.free) ∈ scope.names → sc.names.lookup x = some .cell ∨ sc.names.lookup x = some .free
  loc : ∀ x, (x, NameKind.local) ∈ scope.names → x ∈ names → ∃ i ∈ is, names[i]? = some x

theorem lookup_of_mem {α : Type} : ∀ {l : List (Str × α)} {n : Str} {c : α}, (l.map (·.1)).Nodup → (n, c) ∈ l → l.lookup n = some c
  | (k, v) :: r, n, c, nd, h => by
    simp only [List.map_cons, List.nodup_cons] at nd
    rw [List.lookup_cons]
    rcases List.mem_cons.mp h with h | h
    · cases h; simp
    · have : n ≠ k := fun e => nd.1 (e ▸ List.mem_map.mpr ⟨(n, c), h, rfl⟩)
      rw [beq_eq_false_iff_ne.mpr this]
      exact lookup_of_mem nd.2 h

theorem rl_lookup {sc scope : Scope} (nd : (scope.names.map (·.1)).Nodup) (x : Str) : (rl sc scope).names.lookup x = (scope.names.lookup x).map fun k => if (k == .free && sc.kind == .function && sc.names.lookup x == some .cell) then .cell else k := by
  show (scope.names.map fun (n, k) => if (k == NameKind.free && sc.kind == .function && sc.names.lookup n == some .cell) then (n, NameKind.cell) else (n, k)).lookup x = _
  clear nd
  induction scope.names with
  | nil => rfl
  | cons p r ih =>
    obtain ⟨y, k⟩ := p
    rw [List.map_cons, List.lookup_cons (as := r)]
    by_cases hc : (k == NameKind.free && sc.kind == .function && sc.names.lookup y == some .cell) = true
    · simp only [hc, if_true]
      rw [List.lookup_cons]
      cases hxy : x == y with
      | false => exact ih
      | true =>
        have : x = y := by simpa using hxy
        subst this
        simp only [Option.map_some, hc, if_true]
    · have hc' : (k == NameKind.free && sc.kind == .function && sc.names.lookup y == some .cell) = false := by simpa using hc
      simp only [hc', Bool.false_eq_true, if_false]
      rw [List.lookup_cons]
      cases hxy : x == y with
      | false => exact ih
      | true =>
        have : x = y := by simpa using hxy
        subst this
        simp only [Option.map_some, hc', Bool.false_eq_true, if_false]
end
section
variable {X : Cx} {n : Nat} {sc : Scope} {names : List Str}

noncomputable def CondOk (X : Cx) (n : Nat) (sc' : Scope) (names : List Str) (ifs : List Expr) (cond : Option E) : Prop :=
  (ifs = [] ∧ cond = none) ∨ ∃ c ec, ifs = [c] ∧ cond = some ec ∧ ST X n sc' names c ec

theorem env_comp {env : Env} {scope : Scope} {cl : List (Str × Addr)} {C : Addr} (he : env.scope = sc) (eo : EnvOk env) (hk : scope.kind = .function) : EnvOk (compEnvC scope cl C env) ∧ (compEnvC scope cl C env).scope = rl sc scope :=
  ⟨⟨hk, eo.glob, eo.blt⟩, rl_eq he scope⟩

theorem comp_core {elt target iter : Expr} {ifs : List Expr} {scope : Scope} {pos p : Pos} {e : E} {is : List Nat} {it : It} {cond : Option E} (hco : CompOk sc scope names is) (ht : TgtOkL names (rl sc scope) target is)
    (hit : SI X n sc names target iter it is.length) (helt : SE X n (rl sc scope) names elt e) (hcond : CondOk X n (rl sc scope) names ifs cond) (hs : notSet iter = true) {env : Env} {A : Around} {s : Shared} {Φ : Fz} {ρ : List MV} {σ : Sg}
    {Q : List D → Sg → Prop} {use : Option (Value → Sem Unit)} {K : Value → Shared → Prop} (he : env.scope = sc) (eo : EnvOk env) (hr : Room X n A) (ok : Ok X.g σ Φ s.heap) (F : Frame X.g env names ρ σ Φ s.heap) (h : mL X n (.comp e is it cond) ρ σ Q)
    (fin : ∀ Dd C vs ds σ' Φ' s', Step X.g s s' Φ Φ' σ σ' → s.heap.get? Dd = none → s.heap.get? C = none → Dd ≠ C → s'.heap.PlainList Dd vs → σ' Dd = none → Φ' Dd = none → σ' C = none → Φ' C = none → (∃ m, s'.heap.Ns C m) → RdAll Φ' vs.toList ds → Q ds σ' →
      compPost (model X.prog X.w) A No use K (.ref Dd) C (.ok .next) s') :
    wpAny (model X.prog X.w) A (comprehension (.ListComp elt [⟨target, iter, ifs, 0⟩] scope pos) scope env p (newList []) false (eval iter env) use) K No s := by
  obtain ⟨m₀, cm, μ, F⟩ := F
  have hcells : ∀ x, (x, NameKind.free) ∈ scope.names → (env.cells.lookup x).isSome = true := fun x hx => by
    refine F.hasCell x ?_
    rw [Env.kindOf_sc he]
    exact hco.free x hx
  have hcl := closureFor_eq (env := env) hcells
  generalize hclv : clos env.cells scope.names [] = cl at hcl
  have clmem : ∀ x c, (x, c) ∈ cl → (x, NameKind.free) ∈ scope.names ∧ env.cells.lookup x = some c := fun x c hx => by
    rw [← hclv] at hx
    rcases clos_mem scope.names [] (x, c) hx with h | ⟨h1, h2⟩
    · cases h
    · obtain ⟨c', hc'⟩ := Option.isSome_iff_exists.mp (hcells x h1)
      simp only [hc', Option.getD_some] at h2
      exact ⟨h1, by rw [hc', h2]⟩
  refine wpAny_comprehension_free rfl (folded_id hs) hcl hco.kind (fun x hx hl => lookup_of_mem hco.nodup (by rw [← hl]; exact hx)) ?_
  refine wpAny_mono (hit env A s Φ ρ σ _ he eo hr ok ⟨m₀, cm, μ, F⟩ h) (fun xv s₁ h₁ => wpAny_mono h₁ (fun itv s₂ h₂ => ?_) fun xx xx h => h.elim) fun xx xx h => h.elim
  obtain ⟨rows, σ₁, Φ₁, st, ⟨hrows, q⟩, hrl, Ia, fp, wr, St, rfl, fd, hcm⟩ := h₂
  refine wpAny_newObj_type (wpAny_newFunctionEnv hco.nocell (by intro y hy; simp at hy) (fun h₁ hns₁ hsb₁ => ?_) hco.kind)
  dsimp only at hns₁ hsb₁ ⊢
  generalize hH2 : s₂.heap.push { cls := .type "list", dict := none, data := .seq ([] : List Value).toArray } = H2 at hns₁ hsb₁ ⊢
  have hCs : H2.objs.size = s₂.heap.objs.size + 1 := by rw [← hH2, Heap.size_push]
  have hDC : s₂.heap.objs.size ≠ H2.objs.size := by rw [hCs]; exact Nat.ne_of_lt (Nat.lt_succ_self _)
  -- the accumulated list, the comprehension's frame
  have old : ∀ b o, s₂.heap.get? b = some o → h₁.get? b = some o := fun b o e => by
    have hb := Heap.lt_size e
    exact hsb₁.extBut b o (by rw [hCs]; exact Nat.ne_of_lt (Nat.lt_succ_of_lt hb)) (Heap.get?_push_of_some _ (hH2 ▸ Heap.get?_push_of_some _ e))
  have hacc : h₁.PlainList s₂.heap.objs.size #[] := ⟨_, hsb₁.extBut _ _ hDC (Heap.get?_push_of_some _ (hH2 ▸ Heap.get?_push_size _ rfl))⟩
  have hDn : s₂.heap.get? s₂.heap.objs.size = none := size_none _
  have hCn : s₂.heap.get? H2.objs.size = none := by
    cases e : s₂.heap.get? H2.objs.size with
    | none => rfl
    | some o => have := Heap.lt_size e; rw [hCs] at this; exact absurd this (Nat.not_lt.mpr (Nat.le_succ _))
  have hDs : s.heap.get? s₂.heap.objs.size = none := st.live _ hDn
  have hCs' : s.heap.get? H2.objs.size = none := st.live _ hCn
  have stk : Step X.g s₂ { s₂ with heap := h₁, toks := s₂.toks + 0 } Φ₁ Φ₁ σ₁ σ₁ := Step.keeps st.ok old
  have st₁ := st.trans stk
  have F₂ := F.step st₁
  have own_old : ∀ a, Own env μ a → ∃ o, s.heap.get? a = some o := fun a ha => by
    rcases ha with ha | ⟨n, ha⟩ | ⟨j, ha⟩
    · subst ha; obtain ⟨o, _, _, ho, _⟩ := F.ns; exact ⟨o, ho⟩
    · exact F.cellsIn n a ha
    · exact F.live j a ha
  obtain ⟨eo', he'⟩ := env_comp (cl := cl) (C := H2.objs.size) he eo hco.kind
  generalize henv : compEnvC scope cl H2.objs.size env = env' at eo' he'
  have hloc' : env'.locals = H2.objs.size := by rw [← henv]; rfl
  have hcl' : env'.cells = cl := by rw [← henv]; rfl
  have kind' : ∀ x, env'.kindOf x = (scope.names.lookup x).map fun k => if (k == .free && sc.kind == .function && sc.names.lookup x == some .cell) then .cell else k := fun x => by
    rw [Env.kindOf_sc he', rl_lookup hco.nodup]
  -- the comprehension's own names and what it sees of the outer ones
  let μ' : Nat → Option Addr := fun j => if j ∈ is then none else μ j
  have own' : ∀ a, Own env' μ' a → a = H2.objs.size ∨ Own env μ a := fun a ha => by
    rcases ha with ha | ⟨x, ha⟩ | ⟨j, ha⟩
    · exact .inl (ha.trans hloc')
    · rw [hcl'] at ha
      exact .inr (.inr (.inl ⟨x, mem_of_lookup (clmem x a ha).2⟩))
    · by_cases q : j ∈ is
      · simp only [μ', if_pos q] at ha; cases ha
      · simp only [μ', if_neg q] at ha
        exact .inr (.inr (.inr ⟨j, ha⟩))
  have hgC : X.g.get? H2.objs.size = none := by
    cases e : X.g.get? H2.objs.size with
    | none => rfl
    | some o => have := (ok.base _ o e).1; rw [hCs'] at this; cases this
  have F' : FrameX X.g env' names (unbAll ρ is) σ₁ Φ₁ h₁ (fun x => ([] : List (Str × Value)).reverse.lookup x) cm μ' := {
    nd := F.nd
    len := by rw [unbAll_len]; exact F.len
    ns := by rw [hloc']; exact hns₁
    cell := fun x c hc => by
      rw [hcl'] at hc
      exact F₂.cell x c (clmem x c (mem_of_lookup hc)).2
    cellsIn := fun x c hc => by
      rw [hcl'] at hc
      exact F₂.cellsIn x c (mem_of_lookup (clmem x c hc).2)
    hasCell := fun x hx => by
      rw [hcl', ← hclv]
      refine clos_has _ _ x (.inl ?_)
      rw [kind'] at hx
      cases e : scope.names.lookup x with
      | none => rw [e] at hx; rcases hx with hx | hx <;> cases hx
      | some k =>
        rw [e] at hx
        cases k with
        | free => exact mem_of_lookup e
        | cell => exact absurd rfl (hco.nocell _ (mem_of_lookup e))
        | «local» => rcases hx with hx | hx <;> simp at hx
        | globalImplicit => rcases hx with hx | hx <;> simp at hx
        | globalExplicit => rcases hx with hx | hx <;> simp at hx
    apart := by
      rw [hcl']
      have nd : (cl.map (·.1)).Nodup := by rw [← hclv]; exact clos_pair scope.names [] (by simpa using hco.nodup)
      rw [List.nodup_iff_pairwise_ne, List.pairwise_map] at nd
      refine List.Pairwise.imp_of_mem ?_ nd
      intro a b ha hb hne hab
      exact hne (name_of_addr F.apart (mem_of_lookup (clmem a.1 a.2 ha).2) (by rw [hab]; exact mem_of_lookup (clmem b.1 b.2 hb).2))
    offc := fun x c hc => by
      rw [hcl'] at hc
      rw [hloc']
      intro q
      obtain ⟨o, ho⟩ := F.cellsIn x c (mem_of_lookup (clmem x c hc).2)
      rw [q, hCs'] at ho; cases ho
    priv := fun a ha => by
      rcases own' a ha with q | q
      · subst q; exact ⟨st.ok.freshS hCn, st.ok.freshF hCn, hgC⟩
      · exact F₂.priv a q
    vars := fun j y hj hacc => by
      by_cases q : j ∈ is
      · rw [unbAll_in is ρ j q]
        show μ' j = none
        simp only [μ', if_pos q]
      · have e1 : (unbAll ρ is).getD j .unb = ρ.getD j .unb := by simp only [List.getD, unbAll_out is ρ j q]
        rw [e1]
        have e2 : μ' j = μ j := by simp only [μ', if_neg q]
        rw [e2]
        -- the name is free in the comprehension
        have hfree : scope.names.lookup y = some .free := by
          have hacc' := hacc
          unfold acc at hacc'
          rw [kind'] at hacc'
          cases e : scope.names.lookup y with
          | none => rw [e] at hacc'; rcases hacc' with h | h | h <;> cases h
          | some k =>
            rw [e] at hacc'
            cases k with
            | free => rfl
            | cell => exact absurd rfl (hco.nocell _ (mem_of_lookup e))
            | «local» =>
              obtain ⟨i, hi, hi'⟩ := hco.loc y (mem_of_lookup e) (List.mem_of_getElem? hj)
              exact absurd (names_inj F.nd hj hi' ▸ hi) q
            | globalImplicit => rcases hacc' with h | h | h <;> simp at h
            | globalExplicit => rcases hacc' with h | h | h <;> simp at h
        have hout := hco.free y (mem_of_lookup hfree)
        have hao : acc env y := by
          unfold acc
          rw [Env.kindOf_sc he]
          exact .inr hout
        have v := F₂.vars j y hj hao
        have l1 : look env m₀ cm y = cm y := by
          unfold look
          rw [Env.kindOf_sc he]
          rcases hout with h | h <;> rw [h]
        have l2 : look env' (fun x => ([] : List (Str × Value)).reverse.lookup x) cm y = cm y := by
          unfold look
          have : env'.kindOf y = some .cell ∨ env'.kindOf y = some .free := by
            rw [kind', hfree]
            simp only [Option.map_some]
            split
            · exact .inl rfl
            · exact .inr rfl
          rcases this with h | h <;> rw [h]
        rw [l2, ← l1]
        exact v
    inj := fun j k a ej ek => by
      by_cases qj : j ∈ is
      · simp only [μ', if_pos qj] at ej; cases ej
      · by_cases qk : k ∈ is
        · simp only [μ', if_pos qk] at ek; cases ek
        · simp only [μ', if_neg qj] at ej
          simp only [μ', if_neg qk] at ek
          exact F.inj j k a ej ek
    offm := fun j a e => by
      by_cases q : j ∈ is
      · simp only [μ', if_pos q] at e; cases e
      · simp only [μ', if_neg q] at e
        refine ⟨fun z => ?_, fun x z => ?_⟩
        · rw [hloc'] at z
          obtain ⟨o, ho⟩ := F.live j a e
          rw [z, hCs'] at ho; cases ho
        · rw [hcl'] at z
          exact (F.offm j a e).2 x (mem_of_lookup (clmem x a z).2)
    live := fun j a e => by
      by_cases q : j ∈ is
      · simp only [μ', if_pos q] at e; cases e
      · simp only [μ', if_neg q] at e
        exact F₂.live j a e }
  have ownS : ∀ a, Own env' μ' a → a ≠ H2.objs.size → ∃ o, s.heap.get? a = some o := fun a ha hne => by
    rcases own' a ha with q | q
    · exact absurd q hne
    · exact own_old a q
  have hμ' : ∀ i ∈ is, μ' i = none := fun i hi => by simp only [μ', if_pos hi]
  have hCl : s.heap.get? env'.locals = none := by rw [hloc']; exact hCs'
  have hDown : ¬ Own env' μ' s₂.heap.objs.size := fun ho => by
    obtain ⟨o, e⟩ := ownS _ ho hDC
    rw [hDs] at e; cases e
  -- the iterator's objects
  have fpC : ∀ b ∈ fp, b ≠ H2.objs.size ∧ b ≠ s₂.heap.objs.size := fun b hb => by
    obtain ⟨o, ho⟩ := fd.inn b hb
    exact ⟨fun q => (by rw [q, hCn] at ho; cases ho), fun q => (by rw [q, hDn] at ho; cases ho)⟩
  have wrS : ∀ b ∈ wr, s.heap.get? b = none := fun b hb => (fd.wnew b hb).1
  have wrOwn : ∀ b ∈ wr, ¬ Own env' μ' b := fun b hb ho => by
    obtain ⟨o, e⟩ := ownS b ho (fpC b (fd.sub b hb)).1
    rw [wrS b hb] at e; cases e
  let Iv : Nat → Shared → Prop := fun k s' => ∃ j σ' Φ' ys ds, CF X env' names s Φ σ cm μ' (unbAll ρ is) s' Φ' σ' ∧ Fz.le Φ₁ Φ' ∧ s'.heap.PlainList s₂.heap.objs.size ys ∧ RdAll Φ' ys.toList ds ∧ σ' s₂.heap.objs.size = none ∧ Φ' s₂.heap.objs.size = none ∧
    (∀ b ∈ fp, (∃ o, Φ₁ b = some o) ∨ (∃ o, s'.heap.get? b = some o) ∧ σ' b = none ∧ Φ' b = none) ∧ (∀ b ∈ wr, σ' b = none ∧ Φ' b = none) ∧ St j s'.heap ∧ ds.length ≤ j ∧
    compT (mCond X n cond) (e X n) ρ is (rows.drop j) σ' (fun rest σ => Q (ds ++ rest) σ) ∧ j ≤ rows.length ∧ k = rows.length + 1 - j
  have start : Iv (rows.length + 1) { s₂ with heap := h₁, toks := s₂.toks + 0 } := by
    refine ⟨0, σ₁, Φ₁, #[], [], ⟨st₁, _, F'⟩, Fz.le.refl _, hacc, .nil, st.ok.freshS hDn, st.ok.freshF hDn, fun b hb => ?_, fun b hb => (fd.wnew b hb).2, fd.frame _ _ _ fd.st0 fun b xx o e => old b o e, Nat.le_refl _, by simpa using q, Nat.zero_le _, rfl⟩
    cases e : Φ₁ b with
    | some o => exact .inl ⟨o, rfl⟩
    | none =>
      obtain ⟨o, ho⟩ := fd.inn b hb
      rcases fd.new b hb with h | h
      · exact absurd e h
      · exact .inr ⟨⟨o, old b o ho⟩, h.2.1, rfl⟩
  have loop : ∀ s₄ : Shared, s₄ = { s₂ with heap := h₁, toks := s₂.toks + 0 } →
      codeAny (model X.prog X.w) A (.compLoop (.ListComp elt [⟨target, iter, ifs, 0⟩] scope pos) 0 (.ref Ia) (.ref s₂.heap.objs.size) env') (compPost (model X.prog X.w) A No use K (.ref s₂.heap.objs.size) H2.objs.size) s₄ := by
    rintro s₄ rfl
    refine compLoop_any Iv ?_ (rows.length + 1) start
    rintro k s' ⟨j, σ', Φ', ys, ds, c, le', hpl, hrd, hD1, hD2, hfp, hwr, hst, hlen, q', hj, rfl⟩
    by_cases hlt : j < rows.length
    · have hrow : rows[j]? = some rows[j] := List.getElem?_eq_getElem hlt
      have hrlen := hrl _ (List.getElem_mem hlt)
      have hdrop : rows.drop j = rows[j] :: rows.drop (j + 1) := List.drop_eq_getElem_cons hlt
      rw [hdrop] at q'
      simp only [compT] at q'
      refine wpAny_mono (fd.next j s' (fun v s₂' => wpAny (model X.prog X.w) A (assign target env' v) (fun xx s₃ =>
          wpAny (model X.prog X.w) A (forIn ifs true fun c r => if r = true then do let ok ← isTrue c env' (eval c env'); pure (ForInStep.yield ok) else pure (ForInStep.yield r)) (fun ok s₃ =>
            if ok = true then wpAny (model X.prog X.w) A (eval elt env') (fun x s₄ => wpAny (model X.prog X.w) A (call (.builtin "list.append") [.ref s₂.heap.objs.size, x]) (fun xx s₅ => ∃ m, m < rows.length + 1 - j ∧ Iv m s₅) No s₄) No s₃
            else ∃ m, m < rows.length + 1 - j ∧ Iv m s₃) No s₃) No s₂') rows[j] hrow hst fun v ha tka hG hsta hka => ?_) (by rintro r s₁ ⟨v, rfl, hv⟩; exact hv) fun xx xx h => h.elim
      -- the iterator has moved
      have ca : CF X env' names s Φ σ cm μ' (unbAll ρ is) { s' with heap := ha, toks := tka } Φ' σ' := by
        obtain ⟨m, Fm⟩ := c.fr
        exact ⟨c.step.write ok (W := wr) (fun b hb => ⟨wrS b hb, hwr b hb⟩) hka, m, Fm.kept fun a o hao e => hka a o (fun q => wrOwn a q hao) e⟩
      have hDwr : s₂.heap.objs.size ∉ wr := fun q => (fpC _ (fd.sub _ q)).2 rfl
      have hpla : ha.PlainList s₂.heap.objs.size ys := hpl.at fun o e => hka _ o hDwr e
      refine ca.assign_got hcm hr eo' he' ok hCl ht hμ' hrlen (hG.mono le') fun hb tkb cb kb => ?_
      rw [setAll_unb hrlen] at cb
      rw [hloc'] at kb
      have stb : St (j + 1) hb := fd.frame _ _ _ hsta fun b hbm o e => kb b o (fpC b hbm).1 e
      have hplb : hb.PlainList s₂.heap.objs.size ys := hpla.at fun o e => kb _ o hDC e
      have alive_a : ∀ b ∈ fp, (∃ o, s'.heap.get? b = some o) → ∃ o, hb.get? b = some o := fun b hbm hex => by
        by_cases hw : b ∈ wr
        · obtain ⟨o, ho⟩ := fd.live _ _ hsta b hw
          exact ⟨o, kb b o (fpC b hbm).1 ho⟩
        · obtain ⟨o, ho⟩ := hex
          exact ⟨o, kb b o (fpC b hbm).1 (hka b o hw ho)⟩
      -- after any evaluation the iterator stands as it stood
      have fwd : ∀ (s₃ : Shared) Φ₃ σ₃, Step X.g { s' with heap := hb, toks := tkb } s₃ Φ' Φ₃ σ' σ₃ → St (j + 1) s₃.heap ∧ s₃.heap.PlainList s₂.heap.objs.size ys ∧ σ₃ s₂.heap.objs.size = none ∧ Φ₃ s₂.heap.objs.size = none ∧
          (∀ b ∈ fp, (∃ o, Φ₁ b = some o) ∨ (∃ o, s₃.heap.get? b = some o) ∧ σ₃ b = none ∧ Φ₃ b = none) ∧ (∀ b ∈ wr, σ₃ b = none ∧ Φ₃ b = none) := by
        intro s₃ Φ₃ σ₃ x
        have hDb : ∃ o, hb.get? s₂.heap.objs.size = some o := let ⟨k, e⟩ := hplb; ⟨_, e⟩
        obtain ⟨oD, hoD⟩ := hDb
        refine ⟨fd.frame _ _ _ stb fun b hbm o ho => ?_, hplb.at fun o ho => x.keep _ o ho hD1, x.outS (o := oD) hoD hD1, x.outF (o := oD) hoD hD1 hD2, fun b hbm => ?_, fun b hbm => ?_⟩
        · rcases hfp b hbm with ⟨o', ho'⟩ | ⟨_, h1, _⟩
          · exact x.keep b o ho (cb.step.ok.frz b o' (le' b o' ho')).2
          · exact x.keep b o ho h1
        · rcases hfp b hbm with hf | ⟨hex, h1, h2⟩
          · exact .inl hf
          · obtain ⟨o, ho⟩ := alive_a b hbm hex
            exact .inr ⟨⟨o, x.keep b o ho h1⟩, x.outS (o := o) ho h1, x.outF (o := o) ho h1 h2⟩
        · obtain ⟨o, ho⟩ := fd.live _ _ stb b hbm
          exact ⟨x.outS (o := o) ho (hwr b hbm).1, x.outF (o := o) ho (hwr b hbm).1 (hwr b hbm).2⟩
      have frb : Frame X.g env' names (setAll ρ is rows[j]) σ' Φ' hb := let ⟨m, Fm⟩ := cb.fr; ⟨m, cm, μ', Fm⟩
      -- back to the state between the turns
      have back : ∀ (s₃ : Shared) Φ₃ σ₃, CF X env' names s Φ σ cm μ' (setAll ρ is rows[j]) s₃ Φ₃ σ₃ → CF X env' names s Φ σ cm μ' (unbAll ρ is) s₃ Φ₃ σ₃ := by
        rintro s₃ Φ₃ σ₃ ⟨x, m, Fm⟩
        refine ⟨x, m, Fm.weaken (by rw [unbAll_len, setAll_len]) fun i => ?_⟩
        by_cases hi : i ∈ is
        · exact .inr ⟨unbAll_in is ρ i hi, hμ' i hi⟩
        · exact .inl (by simp only [List.getD, unbAll_out is ρ i hi, setAll_out is rows[j] ρ i hi])
      have stepF : ∀ (s₃ : Shared) Φ₃ σ₃, Step X.g { s' with heap := hb, toks := tkb } s₃ Φ' Φ₃ σ' σ₃ → CF X env' names s Φ σ cm μ' (setAll ρ is rows[j]) s₃ Φ₃ σ₃ := fun s₃ Φ₃ σ₃ x =>
        ⟨cb.step.trans x, let ⟨m, Fm⟩ := cb.fr; ⟨m, Fm.step x⟩⟩
      -- the element and its place in the list
      have tail : ∀ (s₃ : Shared) Φ₃ σ₃, Step X.g { s' with heap := hb, toks := tkb } s₃ Φ' Φ₃ σ' σ₃ →
          (mEval X n e (setAll ρ is rows[j]) σ₃ fun d σ => compT (mCond X n cond) (e X n) ρ is (rows.drop (j + 1)) σ fun rest σ => Q (ds ++ d :: rest) σ) →
          wpAny (model X.prog X.w) A (eval elt env') (fun x s₄ => wpAny (model X.prog X.w) A (call (.builtin "list.append") [.ref s₂.heap.objs.size, x]) (fun xx s₅ => ∃ m, m < rows.length + 1 - j ∧ Iv m s₅) No s₄) No s₃ := by
        intro s₃ Φ₃ σ₃ x qe
        refine wpAny_mono (helt env' A s₃ Φ₃ _ σ₃ _ he' eo' hr x.ok (Frame.step frb x) qe) ?_ fun xx xx h => h.elim
        rintro y s₄ ⟨d, σ₄, Φ₄, x₄, ry, q₄⟩
        have xx := x.trans x₄
        obtain ⟨stc, hplc, h1, h2, h3, h4⟩ := fwd s₄ Φ₄ σ₄ xx
        have hys := hrd.length
        simp only [Array.length_toList] at hys
        refine wpAny_list_append_plain hplc (fun h₅ hl₅ hs₅ => ?_) (le_size hys hlen hlt hrows)
        have c₄ := back s₄ Φ₄ σ₄ (stepF s₄ Φ₄ σ₄ xx)
        refine ⟨rows.length + 1 - (j + 1), meas_lt hlt, j + 1, σ₄, Φ₄, ys.push y, ds ++ [d], ⟨c₄.step.write (tk := s₄.toks) ok (W := [s₂.heap.objs.size]) (fun b hbm => ?_) fun b o hbm ho => (hs₅.2 b (by simpa using hbm)).trans ho, ?_⟩, le'.trans (x.mono.trans x₄.mono), hl₅,
          by simpa using (hrd.mono (x.mono.trans x₄.mono)).append (.one ry), h1, h2, fun b hbm => ?_, h4, fd.frame _ _ _ stc fun b hbm o ho => (hs₅.2 b (fpC b hbm).2).trans ho, by rw [List.length_append]; exact Nat.succ_le_succ hlen, by simpa using q₄, hlt, rfl⟩
        · have : b = s₂.heap.objs.size := by simpa using hbm
          subst this
          exact ⟨hDs, h1, h2⟩
        · obtain ⟨m, Fm⟩ := c₄.fr
          exact ⟨m, Fm.kept fun a o hao ho => (hs₅.2 a fun q => hDown (q ▸ hao)).trans ho⟩
        · rcases h3 b hbm with hf | ⟨⟨o, ho⟩, h5, h6⟩
          · exact .inl hf
          · exact .inr ⟨⟨o, (hs₅.2 b (fpC b hbm).2).trans ho⟩, h5, h6⟩
      have skip : ∀ (s₃ : Shared) Φ₃ σ₃, Step X.g { s' with heap := hb, toks := tkb } s₃ Φ' Φ₃ σ' σ₃ →
          (compT (mCond X n cond) (e X n) ρ is (rows.drop (j + 1)) σ₃ fun rest σ => Q (ds ++ rest) σ) → ∃ m, m < rows.length + 1 - j ∧ Iv m s₃ := by
        intro s₃ Φ₃ σ₃ x qe
        obtain ⟨stc, hplc, h1, h2, h3, h4⟩ := fwd s₃ Φ₃ σ₃ x
        exact ⟨rows.length + 1 - (j + 1), meas_lt hlt, j + 1, σ₃, Φ₃, ys, ds, back s₃ Φ₃ σ₃ (stepF s₃ Φ₃ σ₃ x), le'.trans x.mono, hplc, hrd.mono x.mono, h1, h2, h3, h4, stc, Nat.le_succ_of_le hlen, qe, hlt, rfl⟩
      rcases hcond with ⟨rfl, rfl⟩ | ⟨c₁, ec, rfl, rfl, hst₁⟩
      · refine wpAny_tests_nil ?_
        simp only [mCond, condT, D.onBool, if_true] at q' ⊢
        exact tail _ Φ' σ' (Step.refl cb.step.ok) q'
      · refine wpAny_tests_one ?_
        simp only [mCond] at q'
        refine wpAny_mono (hst₁ env' A _ Φ' _ σ' _ _ he' eo' hr cb.step.ok frb (fun xx xx h => D.bool_of h) q') ?_ fun xx xx h => h.elim
        rintro b s₃ ⟨σ₃, Φ₃, x, qb⟩
        cases b with
        | true => exact tail s₃ Φ₃ σ₃ x qb
        | false => exact skip s₃ Φ₃ σ₃ x qb
    · have hje : j = rows.length := eq_of_ge hlt hj
      subst hje
      simp only [List.drop_length, compT, List.append_nil] at q'
      refine wpAny_mono (fd.done s' (fun s₁ => compPost (model X.prog X.w) A No use K (.ref s₂.heap.objs.size) H2.objs.size (.ok .next) s₁) hst fun ha tka hka => ?_) (by rintro r s₁ ⟨rfl, h⟩; exact h) fun xx xx h => h.elim
      have hDwr : s₂.heap.objs.size ∉ wr := fun q => (fpC _ (fd.sub _ q)).2 rfl
      have sw : Step X.g s { s' with heap := ha, toks := tka } Φ Φ' σ σ' := c.step.write ok (W := wr) (fun b hb => ⟨wrS b hb, hwr b hb⟩) hka
      obtain ⟨m, Fm⟩ := c.fr
      have Fm' := Fm.kept (h' := ha) fun a o hao e => hka a o (fun q => wrOwn a q hao) e
      have pC := Fm.priv env'.locals (.inl rfl)
      rw [hloc'] at pC
      exact fin _ _ ys ds σ' Φ' _ sw hDs hCs' hDC (hpl.at fun o e => hka _ o hDwr e) hD1 hD2 pC.1 pC.2.1 ⟨m, by have := Fm'.ns; rw [hloc'] at this; exact this⟩ hrd q'
  have hst0 : St 0 h₁ := fd.frame _ _ _ fd.st0 fun b xx o e => old b o e
  rw [← henv] at loop
  exact codeAny_compStart_list (loop _ rfl) (wpAny_mono (fd.self { s₂ with heap := h₁, toks := s₂.toks + 0 } _ hst0 (loop _ rfl)) (fun xx xx h => h) fun xx xx h => h.elim)
end
section
variable {X : Cx} {n : Nat} {sc : Scope} {names : List Str}

theorem SL_comp {elt target iter : Expr} {ifs : List Expr} {scope : Scope} {pos : Pos} {e : E} {is : List Nat} {it : It} {cond : Option E} (hco : CompOk sc scope names is) (ht : TgtOkL names (rl sc scope) target is)
    (hit : SI X n sc names target iter it is.length) (helt : SE X n (rl sc scope) names elt e) (hcond : CondOk X n (rl sc scope) names ifs cond) (hs : notSet iter = true) :
    SL X n sc names (.ListComp elt [⟨target, iter, ifs, 0⟩] scope pos) (.comp e is it cond) := by
  intro env A s Φ ρ σ Q he eo hr ok F h
  rw [eval_ListComp]
  refine comp_core (use := none) hco ht hit helt hcond hs he eo hr ok F h ?_
  intro Dd C vs ds σ' Φ' s' st hD hC hDC hl h1 h2 h3 h4 ⟨m, hns⟩ hrd q
  refine ⟨m, hns, fun h' hsb => ⟨Dd, vs, ds, σ', Φ', rfl, ?_, hD, hl.at fun o e => (hsb.2 Dd hDC).trans e, h1, h2, hrd, q⟩⟩
  refine st.write (tk := s'.toks) ok (W := [C]) (fun b hb => ?_) fun b o hb ho => (hsb.2 b (by simpa using hb)).trans ho
  have : b = C := by simpa using hb
  subst this
  exact ⟨hC, h3, h4⟩

noncomputable def swapsB (sc : Scope) (scope : Scope) (y : Str) (py pos : Pos) : Bool :=
  sc.names.lookup y == some .local && py.line == pos.line && !(scope.names.any fun (n, k) => n == y && (k == .local || k == .cell))

theorem swaps_comp {elt : Expr} {gens : List Comprehension} {scope : Scope} {pos py : Pos} {y : Str} {l : Nat} {env : Env} (he : env.scope = sc) (eo : EnvOk env) :
    swapsWith (.ListComp elt gens scope pos) (some (.Name y py)) l env = pure (swapsB sc scope y py pos) := by
  have hb : env.blockKind = .function := by
    unfold Env.blockKind
    rw [eo.kind]; rfl
  show (pure (env.blockKind == .function && env.kindOf y == some .local && py.line == pos.line && !(scope.names.any fun (n, k) => n == y && (k == .local || k == .cell))) : Sem Bool) = _
  rw [hb, Env.kindOf_sc he]
  rfl

theorem SS_asgMC {elt target iter : Expr} {ifs : List Expr} {scope : Scope} {pos spos py : Pos} {y : Str} {i : Nat} {e : E} {is : List Nat} {it : It} {cond : Option E} (hi : names[i]? = some y) (hk : stS sc y = true) (hco : CompOk sc scope names is) (ht : TgtOkL names (rl sc scope) target is)
    (hit : SI X n sc names target iter it is.length) (helt : SE X n (rl sc scope) names elt e) (hcond : CondOk X n (rl sc scope) names ifs cond) (hs : notSet iter = true) :
    SS X n sc names (.Assign [.Name y py] (.ListComp elt [⟨target, iter, ifs, 0⟩] scope pos) spos) (.asgM i (.comp e is it cond)) := by
  by_cases hsw : swapsB sc scope y py pos = true
  · intro env A s B Φ₀ ρ σ Φ Q he eo hr I h
    rw [exec_Assign_Name_used _ _ _ _ (by rw [swaps_comp he eo, hsw])]
    refine wpAny_bind (wpAny_standAt (wpAny_bind ?_))
    show wpAny _ A (do let _ ← comprehension (.ListComp elt [⟨target, iter, ifs, 0⟩] scope pos) scope env _ (newList []) false (eval iter env) (some (assign (.Name y py) env))) _ _ s
    refine wpAny_bind (wpAny_mono (comp_core (use := some (assign (.Name y py) env)) (K := fun xx s' => Ex X env names B Φ₀ s Φ Q .next s') hco ht hit helt hcond hs he eo hr I.ok I.frame h ?_) (fun xx s' hq => wpAny_pure (wpAny_pure hq)) fun xx xx e => e)
    intro Dd C vs ds σ' Φ' s' st hD hC hDC hl h1 h2 h3 h4 ⟨mc, hns⟩ hrd q
    obtain ⟨m, cm, μ, F, hB⟩ := I.fr
    have none_of : ∀ a, s.heap.get? a = none → B a = none ∧ X.g.get? a = none ∧ Φ₀ a = none ∧ ∀ b, Own env μ b → b ≠ a := fun a hn => by
      have hold : ∀ o, s.heap.get? a ≠ some o := fun o e => by rw [hn] at e; cases e
      refine ⟨?_, ?_, ?_, fun b hb q => ?_⟩
      · cases e : B a with
        | none => rfl
        | some o => exact absurd (I.prot a o e).1 (hold o)
      · cases e : X.g.get? a with
        | none => rfl
        | some o => exact absurd (I.ok.base a o e).1 (hold o)
      · cases e : Φ₀ a with
        | none => rfl
        | some o => exact absurd (I.ok.frz a o (I.mono0 a o e)).1 (hold o)
      · subst q
        rcases hb with hb | ⟨n, hb⟩ | ⟨j, hb⟩
        · subst hb; obtain ⟨o, _, _, ho, _⟩ := F.ns; exact hold o ho
        · obtain ⟨o, ho⟩ := F.cellsIn n _ hb; exact hold o ho
        · obtain ⟨o, ho⟩ := F.live j _ hb; exact hold o ho
    obtain ⟨c1, c2, c3, c4⟩ := none_of C hC
    obtain ⟨d1, d2, d3, d4⟩ := none_of Dd hD
    have O : Ours X B Φ₀ [C] := ⟨fun b hb => by rw [List.mem_singleton.mp hb]; exact c3, fun b hb => by rw [List.mem_singleton.mp hb]; exact c2, fun b hb => by rw [List.mem_singleton.mp hb]; exact c1⟩
    have I₁ := (I.step st).toX (fpp := [C]) (F.step st) hB fun b hb => by
      rw [List.mem_singleton.mp hb]; exact ⟨fun ho => c4 C ho rfl, h3, h4⟩
    have al : ∀ b ∈ [C], ∃ o, s'.heap.get? b = some o := fun b hb => by
      rw [List.mem_singleton.mp hb]
      obtain ⟨o, _, _, ho, _⟩ := hns
      exact ⟨o, ho⟩
    have hB' : ∀ a, Own env μ a → Bx B [C] s'.heap a = none := fun a ha => by
      unfold Bx
      rw [if_neg (by simpa using c4 a ha)]
      exact hB a ha
    have hBD : Bx B [C] s'.heap Dd = none := by
      unfold Bx
      rw [if_neg (by simpa using hDC)]
      exact d1
    refine wpAny_assign_Name (I₁.storeM eo hi (st_of he hk) hl hrd (F.step st) hB' ⟨h1, h2, d2, fun q => d4 _ (.inl rfl) q.symm, fun n q => d4 Dd (.inr (.inl ⟨n, q⟩)) rfl, fun j xx q => d4 Dd (.inr (.inr ⟨j, q⟩)) rfl⟩ hBD fun s₂ hs₂ I₂ => ?_)
    obtain ⟨keepC, eqB⟩ := Bx_same al I₂
    have eC : s₂.heap.get? C = s'.heap.get? C := keepC C (by simp)
    refine ⟨mc, hns.at' fun o e => eC.trans e, fun h' hsb => ?_⟩
    rw [← eqB] at I₂
    have al₂ : ∀ b ∈ [C], ∃ o, s₂.heap.get? b = some o := fun b hb => by
      obtain ⟨o, ho⟩ := al b hb
      exact ⟨o, (keepC b hb).trans ho⟩
    have I₃ := (I₂.writeX O al₂ (W := [C]) (fun b hb => hb) fun b o hb ho => (hsb.2 b (by simpa using hb)).trans ho).ofX O
    obtain ⟨h₁, tk₁, rfl⟩ := st.same
    obtain ⟨h₂, tk₂, rfl⟩ := hs₂
    exact ⟨.next, _, σ', Φ', ⟨h', tk₂, rfl⟩, I₃, st.mono, trivial, q⟩
  · exact SS_asgM' hi hk (SL_comp hco ht hit helt hcond hs) fun env he eo => by
      rw [swaps_comp he eo]
      simp only [Bool.not_eq_true] at hsw
      rw [hsw]
end
section
variable {X : Cx} {n : Nat} {sc : Scope} {names : List Str}

theorem none_of_ge {h : Heap} {a : Addr} (hk : h.objs.size ≤ a) : h.get? a = none := by
  cases e : h.get? a with
  | none => rfl
  | some o => exact absurd (Heap.lt_size e) (Nat.not_lt.mpr hk)

theorem SI_seqT {x : Expr} {e : E} {elts : List Expr} {kk : Nat} {p : Pos} {k : Nat} (hcm : X.calm = true) (hk : k ≠ 1) (hx : SE X n sc names x e) : SI X n sc names (.Tuple elts kk p) x (.seq e) k := by
  intro env A s Φ ρ σ Q he eo hroom ok F h
  refine wpAny_mono (hx env A s Φ ρ σ _ he eo hroom ok F h) ?_ fun xx xx h => h.elim
  rintro v s₁ ⟨d, σ₁, Φ₁, st, r, q⟩
  replace q := seqT_of q
  obtain ⟨rows, hrows, q⟩ := q
  obtain ⟨rfl, hrl⟩ : d = .lst (rows.map D.tup) ∧ ∀ r ∈ rows, r.length = k := by
    cases hrows with
    | one _ h => exact absurd h hk
    | tup _ h => exact absurd h hk
    | many _ _ h => exact ⟨rfl, h⟩
  have hn := size_none s₁.heap
  obtain ⟨a, rfl⟩ := r.lst_ref
  obtain ⟨vs, hl, ra, hfa⟩ := r.isList st.ok
  have hlen := ra.length
  simp only [Array.length_toList, List.length_map] at hlen
  have ha : ∃ o, s₁.heap.get? a = some o := let ⟨o, ho, _⟩ := hl; ⟨o, ho⟩
  have hne : a ≠ s₁.heap.objs.size := fun q => by obtain ⟨o, ho⟩ := ha; rw [q, hn] at ho; cases ho
  -- the tuples
  have each : ∀ j, j < vs.size → ∃ T tv r, vs[j]? = some (.ref T) ∧ s₁.heap.IsTuple T tv ∧ rows[j]? = some r ∧ RdAll Φ₁ tv.toList r ∧ Φ₁ T ≠ none := fun j hj => by
    obtain ⟨d, hd, rd⟩ := ra.get' (k := j) (v := vs[j]) (by simp [hj])
    simp only [List.getElem?_map, Option.map_eq_some_iff] at hd
    obtain ⟨r, hr, rfl⟩ := hd
    obtain ⟨T, hT⟩ := rd.tup_ref
    rw [hT] at rd
    obtain ⟨tv, h1, h2, h3⟩ := rd.isTup st.ok
    exact ⟨T, tv, r, by rw [Array.getElem?_eq_getElem hj, hT], h1, hr, h2, h3⟩
  let Ts : Nat → Addr := fun j => match vs[j]? with | some (.ref T) => T | _ => 0
  have hTs : ∀ j T, vs[j]? = some (.ref T) → Ts j = T := fun j T e => by simp only [Ts, e]
  have ex : ∃ vals : Nat → Array Value, ∀ j, j < vs.size → s₁.heap.IsTuple (Ts j) (vals j) ∧ ∃ r, rows[j]? = some r ∧ RdAll Φ₁ (vals j).toList r := by
    have : ∀ j, ∃ tv : Array Value, j < vs.size → s₁.heap.IsTuple (Ts j) tv ∧ ∃ r, rows[j]? = some r ∧ RdAll Φ₁ tv.toList r := fun j => by
      by_cases hj : j < vs.size
      · obtain ⟨T, tv, r, h1, h2, h3, h4, _⟩ := each j hj
        exact ⟨tv, fun xx => ⟨by rw [hTs j T h1]; exact h2, r, h3, h4⟩⟩
      · exact ⟨#[], fun h => absurd h hj⟩
    exact ⟨fun j => Classical.choose (this j), fun j => Classical.choose_spec (this j)⟩
  obtain ⟨vals, hvals⟩ := ex
  have hTlive : ∀ j, j < vs.size → (∃ o, s₁.heap.get? (Ts j) = some o) ∧ Φ₁ (Ts j) ≠ none := fun j hj => by
    obtain ⟨T, tv, r, h1, ⟨o, ho, _⟩, h3, h4, h5⟩ := each j hj
    rw [hTs j T h1]
    exact ⟨⟨o, ho⟩, h5⟩
  refine wpAny_pyIter_list hl ?_
  have st₂ := push_step st.ok { cls := .type "list_iterator", data := .fields #[.ref a, .int 0 0] }
  have W := WalksU.listOfTuples (prog := X.prog) (w := X.w) (hroom.1 hcm) s₁.heap.objs.size a hne vs Ts vals (fun j hj => by
      obtain ⟨T, tv, r, h1, _⟩ := each j hj
      rw [h1, hTs j T h1]) (fun j hj q => by
      obtain ⟨⟨o, ho⟩, _⟩ := hTlive j hj
      rw [q, hn] at ho; cases ho)
  have hrl' : rows.length = vs.size := hlen.symm
  refine ⟨rows, σ₁, Φ₁, st.trans st₂, q, hrl, s₁.heap.objs.size, s₁.heap.objs.size :: a :: (List.range vs.size).map Ts, [s₁.heap.objs.size], (fun j h => h.IsListIter s₁.heap.objs.size a j ∧ h.IsList a vs ∧ ∀ k, k < vs.size → h.IsTuple (Ts k) (vals k)), rfl, ?_, hcm⟩
  have mem : ∀ b ∈ (s₁.heap.objs.size :: a :: (List.range vs.size).map Ts), b = s₁.heap.objs.size ∨ ((∃ o, s₁.heap.get? b = some o) ∧ Φ₁ b ≠ none) := fun b hb => by
    rcases List.mem_cons.mp hb with rfl | hb
    · exact .inl rfl
    · rcases List.mem_cons.mp hb with rfl | hb
      · exact .inr ⟨ha, hfa⟩
      · obtain ⟨j, hj, rfl⟩ := List.mem_map.mp hb
        exact .inr (hTlive j (List.mem_range.mp hj))
  refine .ofWalksU (by rw [hrl']; exact W) ⟨⟨_, Heap.get?_push_size _ rfl, rfl, rfl⟩, hl.push _, fun k hk => (hvals k hk).1.push _⟩ (fun j v hj hv => ?_) (fun b hb => ?_) (fun b hb => ?_) (fun b hb => ?_) (fun j h hst b hb => ?_)
  · subst hv
    exact (hvals j (hrl' ▸ hj)).2
  · rcases mem b hb with rfl | ⟨⟨o, ho⟩, _⟩
    · exact ⟨_, Heap.get?_push_size _ rfl⟩
    · exact ⟨o, Heap.get?_push_of_some _ ho⟩
  · rcases mem b hb with rfl | ⟨_, hf⟩
    · exact .inr ⟨st.live _ hn, st.ok.freshS hn, st.ok.freshF hn⟩
    · exact .inl hf
  · rcases List.mem_cons.mp hb with rfl | hb
    · exact ⟨st.live _ hn, st.ok.freshS hn, st.ok.freshF hn⟩
    · cases hb
  · rcases List.mem_cons.mp hb with rfl | hb
    · obtain ⟨o, ho, _⟩ := hst.1; exact ⟨o, ho⟩
    · cases hb

theorem SI_enum {x : Expr} {e : E} {elts : List Expr} {kk : Nat} {p pf pos : Pos} (hcm : X.calm = true) (G : Gnd X) (hx : SE X n sc names x e) (hk : sc.names.lookup ("enumerate" : Str) = some .globalImplicit) (hs : notStar x = true) :
    SI X n sc names (.Tuple elts kk p) (.Call (.Name "enumerate" pf) [x] [] pos) (.enum e) 2 := by
  intro env A s Φ ρ σ Q he eo hroom ok F h
  refine call_blt1 (fv := .type "enumerate") G (by simp [bNames]) hx hk hs he eo hroom ok F h ?_
  intro v s₁ d σ₁ Φ₁ st r q
  obtain ⟨ds, rfl, _, q'⟩ := D.lst_of q
  obtain ⟨a, rfl⟩ := r.lst_ref
  obtain ⟨vs, hl, ra, hfa⟩ := r.isList st.ok
  have hlen := ra.length
  simp only [Array.length_toList] at hlen
  have ha : ∃ o, s₁.heap.get? a = some o := let ⟨o, ho, _⟩ := hl; ⟨o, ho⟩
  have hlt : a < s₁.heap.objs.size := let ⟨o, ho⟩ := ha; Heap.lt_size ho
  refine call_enumerate_list hl fun h' hen hit hsz hkeep => wpAny_pyIter_enum hen ?_
  have st₂ : Step X.g s₁ { s₁ with heap := h' } Φ₁ Φ₁ σ₁ σ₁ := Step.keeps st.ok hkeep
  have n0 : s₁.heap.get? s₁.heap.objs.size = none := size_none _
  have n1 : s₁.heap.get? (s₁.heap.objs.size + 1) = none := none_of_ge (Nat.le_succ _)
  have new : ∀ b, s₁.heap.get? b = none → s.heap.get? b = none ∧ σ₁ b = none ∧ Φ₁ b = none := fun b hb => ⟨st.live _ hb, st.ok.freshS hb, st.ok.freshF hb⟩
  have W := WalksT.enumerate (prog := X.prog) (w := X.w) (hroom.1 hcm) (s₁.heap.objs.size + 1) s₁.heap.objs.size a (Nat.succ_ne_self _) (Nat.ne_of_lt (Nat.lt_succ_of_lt hlt)) (Nat.ne_of_lt hlt) vs
  have hrl : (ds.mapIdx fun (i : Nat) d => [D.int (i : Int), d]).length = vs.size := by simp [hlen]
  refine ⟨_, σ₁, Φ₁, st.trans st₂, q', fun r hr => ?_, s₁.heap.objs.size + 1, [s₁.heap.objs.size + 1, s₁.heap.objs.size, a], [s₁.heap.objs.size + 1, s₁.heap.objs.size],
    (fun i h => (∃ old, IsEnum h (s₁.heap.objs.size + 1) s₁.heap.objs.size i old) ∧ h.IsListIter s₁.heap.objs.size a i ∧ h.IsList a vs), rfl, ?_, hcm⟩
  · obtain ⟨j, hj, rfl⟩ := List.mem_mapIdx.mp hr
    rfl
  have mem : ∀ b ∈ [s₁.heap.objs.size + 1, s₁.heap.objs.size, a], (∃ o, h'.get? b = some o) ∧ (Φ₁ b ≠ none ∨ (s.heap.get? b = none ∧ σ₁ b = none ∧ Φ₁ b = none)) := fun b hb => by
    simp only [List.mem_cons, List.not_mem_nil, or_false] at hb
    rcases hb with rfl | rfl | rfl
    · exact ⟨⟨_, hen⟩, .inr (new _ n1)⟩
    · exact ⟨let ⟨o, ho, _⟩ := hit; ⟨o, ho⟩, .inr (new _ n0)⟩
    · exact ⟨let ⟨o, ho⟩ := ha; ⟨o, hkeep _ o ho⟩, .inl hfa⟩
  refine .ofWalksU (by rw [hrl]; exact W.toU) ⟨⟨_, hen⟩, hit, hl.at fun o e => hkeep _ o e⟩ (fun j v hj hv => ?_) (fun b hb => (mem b hb).1) (fun b hb => (mem b hb).2) (fun b hb => ?_) (fun j h hst b hb => ?_)
  · obtain ⟨t, x, hx, rfl⟩ := hv
    obtain ⟨d, hd, r⟩ := ra.get' (k := j) (v := x) (by simpa using hx)
    exact ⟨[.int j, d], by simp [hd], .cons (.int _ _) (.cons r .nil)⟩
  · simp only [List.mem_cons, List.not_mem_nil, or_false] at hb
    rcases hb with rfl | rfl
    · exact new _ n1
    · exact new _ n0
  · simp only [List.mem_cons, List.not_mem_nil, or_false] at hb
    rcases hb with rfl | rfl
    · obtain ⟨old, ho⟩ := hst.1; exact ⟨_, ho⟩
    · obtain ⟨o, ho, _⟩ := hst.2.1; exact ⟨o, ho⟩

theorem SI_zip {x y : Expr} {e f : E} {elts : List Expr} {kk : Nat} {p pf pos : Pos} (hcm : X.calm = true) (G : Gnd X) (hx : SE X n sc names x e) (hy : SE X n sc names y f) (hk : sc.names.lookup ("zip" : Str) = some .globalImplicit) (hs : notStar x = true) (hs' : notStar y = true) :
    SI X n sc names (.Tuple elts kk p) (.Call (.Name "zip" pf) [x, y] [] pos) (.zip e f) 2 := by
  intro env A s Φ ρ σ Q he eo hroom ok F h
  refine call_blt (fv := .type "zip") (Qs := fun ds σ => (ds.getD 0 .none).onLst fun ds' => (ds.getD 1 .none).onLst fun es => ds.length = 2 ∧ Q ((ds'.zip es).map fun (p : D × D) => [p.1, p.2]) σ) G (by simp [bNames]) (SEs_cons hx (SEs_cons hy SEs_nil hs') hs) hk (by simp [hs, hs']) he eo hroom ok F ?_ ?_
  · show e X n ρ σ fun x σ => f X n ρ σ fun y σ => _
    exact h
  rintro _ s₁ dd σ₁ Φ₁ st r q
  obtain ⟨ds, e1, q⟩ := D.lst_of q
  obtain ⟨es, e2, e3, q'⟩ := D.lst_of q
  obtain ⟨d1, d2, rfl⟩ : ∃ d1 d2, dd = [d1, d2] := by
    match dd, e3 with
    | [d1, d2], _ => exact ⟨d1, d2, rfl⟩
  cases e1
  cases e2
  cases r with
  | cons r1 r2 =>
    cases r2 with
    | cons r2 r3 =>
      cases r3
      obtain ⟨a, rfl⟩ := r1.lst_ref
      obtain ⟨b, rfl⟩ := r2.lst_ref
      obtain ⟨xs, hl1, ra1, hf1⟩ := r1.isList st.ok
      obtain ⟨ys, hl2, ra2, hf2⟩ := r2.isList st.ok
      have len1 := ra1.length
      have len2 := ra2.length
      simp only [Array.length_toList] at len1 len2
      have h1 : ∃ o, s₁.heap.get? a = some o := let ⟨o, ho, _⟩ := hl1; ⟨o, ho⟩
      have h2 : ∃ o, s₁.heap.get? b = some o := let ⟨o, ho, _⟩ := hl2; ⟨o, ho⟩
      have lt1 : a < s₁.heap.objs.size := let ⟨o, ho⟩ := h1; Heap.lt_size ho
      have lt2 : b < s₁.heap.objs.size := let ⟨o, ho⟩ := h2; Heap.lt_size ho
      generalize hN : s₁.heap.objs.size = N at lt1 lt2
      refine call_zip_2 hl1 hl2 fun h' hz hTI hTO hi1 hi2 xx hkeep => wpAny_pyIter_zip hz ?_
      rw [hN] at hz hTI hTO hi1 hi2 ⊢
      have st₂ : Step X.g s₁ { s₁ with heap := h' } Φ₁ Φ₁ σ₁ σ₁ := Step.keeps st.ok hkeep
      have new : ∀ k, s.heap.get? (N + k) = none ∧ σ₁ (N + k) = none ∧ Φ₁ (N + k) = none := fun k => by
        have hb : s₁.heap.get? (N + k) = none := none_of_ge (hN ▸ Nat.le_add_right _ _)
        exact ⟨st.live _ hb, st.ok.freshS hb, st.ok.freshF hb⟩
      have W := WalksT.zip2 (prog := X.prog) (w := X.w) (hroom.1 hcm) (N + 4) (N + 2) (N + 3) N (N + 1) a b (zipApart_new lt1 lt2) xs ys
      have hrl : ((ds.zip es).map fun p => [p.1, p.2]).length = min xs.size ys.size := by simp [len1, len2]
      refine ⟨_, σ₁, Φ₁, st.trans st₂, q', fun r hr => ?_, N + 4, [N + 4, N + 2, N + 3, N, N + 1, a, b], [N + 4, N + 3, N, N + 1],
        (fun i h => IsZip h (N + 4) (N + 2) (N + 3) .none ∧ IsPair h (N + 2) (.ref N) (.ref (N + 1)) ∧ (∃ a b, IsPair h (N + 3) a b) ∧ h.IsListIter N a i ∧ h.IsListIter (N + 1) b i ∧ h.IsList a xs ∧ h.IsList b ys), rfl, ?_, hcm⟩
      · obtain ⟨pr, _, rfl⟩ := List.mem_map.mp hr
        rfl
      have mem : ∀ c ∈ [N + 4, N + 2, N + 3, N, N + 1, a, b], (∃ o, h'.get? c = some o) ∧ (Φ₁ c ≠ none ∨ (s.heap.get? c = none ∧ σ₁ c = none ∧ Φ₁ c = none)) := fun c hc => by
        simp only [List.mem_cons, List.not_mem_nil, or_false] at hc
        rcases hc with rfl | rfl | rfl | rfl | rfl | rfl | rfl
        · exact ⟨⟨_, hz⟩, .inr (new 4)⟩
        · exact ⟨⟨_, hTI⟩, .inr (new 2)⟩
        · exact ⟨⟨_, hTO⟩, .inr (new 3)⟩
        · exact ⟨let ⟨o, ho, _⟩ := hi1; ⟨o, ho⟩, .inr (new 0)⟩
        · exact ⟨let ⟨o, ho, _⟩ := hi2; ⟨o, ho⟩, .inr (new 1)⟩
        · exact ⟨let ⟨o, ho⟩ := h1; ⟨o, hkeep _ o ho⟩, .inl hf1⟩
        · exact ⟨let ⟨o, ho⟩ := h2; ⟨o, hkeep _ o ho⟩, .inl hf2⟩
      refine .ofWalksU (by rw [hrl]; exact W.toU) ⟨hz, hTI, ⟨_, _, hTO⟩, hi1, hi2, hl1.at fun o e => hkeep _ o e, hl2.at fun o e => hkeep _ o e⟩ (fun j v hj hv => ?_) (fun b hb => (mem b hb).1) (fun b hb => (mem b hb).2) (fun b hb => ?_) (fun j h hst b hb => ?_)
      · obtain ⟨x, y, hx, hy, rfl⟩ := hv
        obtain ⟨d1, hd1, r1⟩ := ra1.get' (k := j) (v := x) (by simpa using hx)
        obtain ⟨d2, hd2, r2⟩ := ra2.get' (k := j) (v := y) (by simpa using hy)
        exact ⟨[d1, d2], by simp [List.getElem?_zip_eq_some, hd1, hd2], .cons r1 (.cons r2 .nil)⟩
      · simp only [List.mem_cons, List.not_mem_nil, or_false] at hb
        rcases hb with rfl | rfl | rfl | rfl
        · exact new 4
        · exact new 3
        · exact new 0
        · exact new 1
      · simp only [List.mem_cons, List.not_mem_nil, or_false] at hb
        rcases hb with rfl | rfl | rfl | rfl
        · exact ⟨_, hst.1⟩
        · obtain ⟨a, b, ho⟩ := hst.2.2.1; exact ⟨_, ho⟩
        · obtain ⟨o, ho, _⟩ := hst.2.2.2.1; exact ⟨o, ho⟩
        · obtain ⟨o, ho, _⟩ := hst.2.2.2.2.1; exact ⟨o, ho⟩
end
section
variable {X : Cx} {n : Nat} {sc : Scope} {names : List Str} {g : Heap} {env : Env} {ρ : List MV} {σ : Sg} {Φ : Fz} {h : Heap}

theorem FrameX.emp {m cm : Str → Option Value} {μ : Nat → Option Addr} (F : FrameX g env names ρ σ Φ h m cm μ) : FrameX g env names ρ empS Φ h m cm μ :=
  { F with priv := fun a ha => ⟨rfl, (F.priv a ha).2⟩ }

theorem FrameX.freeze {m cm : Str → Option Value} {μ : Nat → Option Addr} (F : FrameX g env names ρ σ Φ h m cm μ) {i : Nat} {x : Str} {ds : List D} (hi : names[i]? = some x) (ha : acc env x) (hm : ρ.getD i .unb = .mt ds) :
    ∃ a o, h.get? a = some o ∧ σ a = none ∧ Φ a = none ∧ ∃ μ', FrameX g env names (ρ.set i (.val (.lst ds))) σ (Fz.put Φ a o) h m cm μ' := by
  have hlt : i < ρ.length := by
    rw [F.len]
    exact (List.getElem?_eq_some_iff.mp hi).1
  have := F.vars i x hi ha
  rw [hm] at this
  obtain ⟨a, vs, hμ, hlk, ⟨k, hl⟩, hr⟩ := this
  have p := F.priv a (.inr (.inr ⟨i, hμ⟩))
  have le := Fz.le_put (Φ := Φ) (a := a) (o := { cls := .type "list", data := .seq vs k }) p.2.1
  refine ⟨a, _, hl, p.1, p.2.1, fun j => if j = i then none else μ j, ?_⟩
  exact {
      nd := F.nd
      len := by rw [List.length_set]; exact F.len
      ns := F.ns
      cell := F.cell
      cellsIn := F.cellsIn
      hasCell := F.hasCell
      apart := F.apart
      offc := F.offc
      priv := fun b hb => by
        have hb' : Own env μ b ∧ b ≠ a := by
          rcases hb with hb | ⟨n, hb⟩ | ⟨j, hb⟩
          · exact ⟨.inl hb, fun q => (F.offm i a hμ).1 (q ▸ hb)⟩
          · exact ⟨.inr (.inl ⟨n, hb⟩), fun q => (F.offm i a hμ).2 n (q ▸ hb)⟩
          · by_cases q : j = i
            · simp only [if_pos q] at hb; cases hb
            · simp only [if_neg q] at hb
              exact ⟨.inr (.inr ⟨j, hb⟩), fun z => q (F.inj j i a (z ▸ hb) hμ)⟩
        have p := F.priv b hb'.1
        exact ⟨p.1, by rw [Fz.put_ne hb'.2]; exact p.2.1, p.2.2⟩
      vars := fun j y hj hacc => by
        by_cases q : j = i
        · subst q
          have e : y = x := by rw [hi] at hj; cases hj; rfl
          subst e
          simp only [if_true]
          rw [getD_set_self hlt]
          exact ⟨rfl, _, hlk, .lst (Fz.put_self _ _ _) rfl rfl rfl (hr.mono le)⟩
        · simp only [if_neg q]
          rw [getD_set_ne (Ne.symm q)]
          exact (F.vars j y hj hacc).mono le fun xx xx xx e => e
      inj := fun j l b ej el => by
        by_cases q : j = i
        · simp only [if_pos q] at ej; cases ej
        · by_cases q' : l = i
          · simp only [if_pos q'] at el; cases el
          · simp only [if_neg q] at ej
            simp only [if_neg q'] at el
            exact F.inj j l b ej el
      offm := fun j b e => by
        by_cases q : j = i
        · simp only [if_pos q] at e; cases e
        · simp only [if_neg q] at e; exact F.offm j b e
      live := fun j b e => by
        by_cases q : j = i
        · simp only [if_pos q] at e; cases e
        · simp only [if_neg q] at e; exact F.live j b e }

noncomputable def lendS (sc : Scope) (names : List Str) (xs : List Nat) : Bool := xs.all fun i => match names[i]? with
  | some x => accS sc x
  | none => false

theorem lend (he : env.scope = sc) : ∀ (xs : List Nat) (ρ : List MV) (Φ : Fz), lendS sc names xs = true → Ok X.g empS Φ h → (∃ m cm μ, FrameX X.g env names ρ empS Φ h m cm μ) →
    ∃ Φ', Fz.le Φ Φ' ∧ Ok X.g empS Φ' h ∧ Frame X.g env names (frzAll ρ xs) empS Φ' h
  | [], ρ, Φ, _, ok, ⟨m, cm, μ, F⟩ => ⟨Φ, Fz.le.refl _, ok, m, cm, μ, F⟩
  | i :: xs, ρ, Φ, hl, ok, ⟨m, cm, μ, F⟩ => by
    simp only [lendS, List.all_cons, Bool.and_eq_true] at hl
    obtain ⟨hi, hl⟩ := hl
    have hl' : lendS sc names xs = true := hl
    cases hx : names[i]? with
    | none => rw [hx] at hi; cases hi
    | some x =>
      rw [hx] at hi
      cases e : ρ.getD i .unb with
      | mt ds =>
        obtain ⟨a, o, h1, h2, h3, μ', F'⟩ := F.freeze hx (acc_of he hi) e
        obtain ⟨Φ', le, ok', F''⟩ := lend he xs _ _ hl' (ok.freeze h1 h2 h3) ⟨m, cm, μ', F'⟩
        refine ⟨Φ', (Fz.le_put h3).trans le, ok', ?_⟩
        simp only [frzAll, e]
        exact F''
      | unb =>
        obtain ⟨Φ', le, ok', F''⟩ := lend he xs ρ _ hl' ok ⟨m, cm, μ, F⟩
        refine ⟨Φ', le, ok', ?_⟩
        simp only [frzAll, e]
        exact F''
      | val d =>
        obtain ⟨Φ', le, ok', F''⟩ := lend he xs ρ _ hl' ok ⟨m, cm, μ, F⟩
        refine ⟨Φ', le, ok', ?_⟩
        simp only [frzAll, e]
        exact F''
      | pin v d =>
        obtain ⟨Φ', le, ok', F''⟩ := lend he xs ρ _ hl' ok ⟨m, cm, μ, F⟩
        refine ⟨Φ', le, ok', ?_⟩
        simp only [frzAll, e]
        exact F''

theorem Rd.atom {Φ Φ' : Fz} {v : Value} {d : D} (r : Rd Φ v d) (h : d.atom = true) : Rd Φ' v d := by
  cases r with
  | none => exact .none
  | bool b => exact .bool b
  | int i t => exact .int i t
  | str x t => exact .str x t
  | tup => cases h
  | lst => cases h
  | ref => cases h
theorem RdAll.atom {Φ Φ' : Fz} {vs : List Value} {ds : List D} (r : RdAll Φ vs ds) (h : ds.all D.atom = true) : RdAll Φ' vs ds := by
  induction vs generalizing ds with
  | nil => cases r; exact .nil
  | cons v vs ih =>
    cases r with
    | cons r1 r2 =>
      simp only [List.all_cons, Bool.and_eq_true] at h
      exact .cons (r1.atom h.1) (ih r2 h.2)

theorem Ok.emp {hp : Heap} (ok : Ok g σ Φ hp) : Ok g empS Φ hp := ⟨fun b o e => ⟨(ok.base b o e).1, rfl⟩, fun b o e => ⟨(ok.frz b o e).1, rfl⟩, fun xx xx e => by cases e⟩

theorem Step.unlend {s s' : Shared} {Φ' Φ'' : Fz} {σ' : Sg} (ok : Ok g σ Φ s.heap) (st : Step g s s' Φ' Φ'' empS σ') : Step g s s' Φ Φ σ σ := by
  obtain ⟨h', tk, rfl⟩ := st.same
  exact Step.keeps ok fun b o e => st.keep b o e rfl

theorem SE_borrow {x : Expr} {e : E} {xs : List Nat} (hl : lendS sc names xs = true) (hx : SE X n sc names x e) : SE X n sc names x (.borrow xs e) := by
  intro env A s Φ ρ σ Q he eo hr ok F h
  obtain ⟨m, cm, μ, F⟩ := F
  obtain ⟨Φ', le, ok', F'⟩ := lend he xs ρ Φ hl ok.emp ⟨m, cm, μ, F.emp⟩
  refine wpAny_mono (hx env A s Φ' _ empS _ he eo hr ok' F' h) ?_ fun xx xx h => h.elim
  rintro v s₁ ⟨d, σ₁, Φ₁, st, r, q⟩
  obtain ⟨ha, q⟩ := D.atom_of q
  exact ⟨d, σ, Φ, st.unlend ok, r.atom ha, q⟩

theorem ST_borrow {x : Expr} {e : E} {xs : List Nat} (hl : lendS sc names xs = true) (hx : ST X n sc names x e) : ST X n sc names x (.borrow xs e) := by
  intro env A s Φ ρ σ Q P he eo hr ok F hq h
  obtain ⟨m, cm, μ, F⟩ := F
  obtain ⟨Φ', le, ok', F'⟩ := lend he xs ρ Φ hl ok.emp ⟨m, cm, μ, F.emp⟩
  refine wpAny_mono (hx env A s Φ' _ empS _ (fun b xx => P b σ) he eo hr ok' F' (fun d σ' hd => ?_) h) ?_ fun xx xx h => h.elim
  · obtain ⟨c, e, p⟩ := hq d σ (D.atom_of hd).2
    exact ⟨c, e, p⟩
  rintro b s₁ ⟨σ₁, Φ₁, st, p⟩
  exact ⟨σ, Φ, st.unlend ok, p⟩

theorem SL_borrow {x : Expr} {l : L} {xs : List Nat} (hl : lendS sc names xs = true) (hx : SL X n sc names x l) : SL X n sc names x (.borrow xs l) := by
  intro env A s Φ ρ σ Q he eo hr ok F h
  obtain ⟨m, cm, μ, F⟩ := F
  obtain ⟨Φ', le, ok', F'⟩ := lend he xs ρ Φ hl ok.emp ⟨m, cm, μ, F.emp⟩
  refine wpAny_mono (hx env A s Φ' _ empS _ he eo hr ok' F' h) ?_ fun xx xx h => h.elim
  rintro v s₁ ⟨a, vs, ds, σ₁, Φ₁, rfl, st, hn, hpl, h1, h2, r, ha, q⟩
  exact ⟨a, vs, ds, σ, Φ, rfl, st.unlend ok, hn, hpl, ok.freshS hn, ok.freshF hn, r.atom ha, q⟩
end
noncomputable def FnAt (X : Cx) (a : Addr) (sc : Scope) (ps : List Str) (body : List Stmt) : Prop :=
  ∃ o fd, X.g.get? a = some o ∧ o.data = .func fd ∧ fd.scope = sc ∧ fd.body = .stmts body ∧ fd.globals = mainGlobals ∧ fd.builtins = builtinsNs ∧ fd.closure = [] ∧
    X.g.CodeRec fd.code fd.qualname ∧ ∀ vals : List Value, vals.length = ps.length → bindArgs fd ⟨vals, []⟩ = pure (ps.zip vals)

noncomputable def FnIs (X : Cx) (f : Str) (sc : Scope) (ps : List Str) (body : List Stmt) : Prop := ∃ a, X.mg f = some (.ref a) ∧ FnAt X a sc ps body
theorem FnIs.isFn {X : Cx} {f : Str} {sc : Scope} {ps : List Str} {body : List Stmt} (h : FnIs X f sc ps body) : IsFn X f := let ⟨a, h1, o, fd, h2, h3, _⟩ := h; ⟨a, o, fd, h1, h2, h3⟩

structure ScOk (sc : Scope) (names ps : List Str) : Prop where
  kind : sc.kind = .function
  gen : sc.isGenerator = false
  cor : sc.isCoroutine = false
  free : ∀ x ∈ sc.names, x.2 ≠ .free
  nds : (sc.names.map (·.1)).Nodup
  nd : names.Nodup
  pre : names.take ps.length = ps
  st : ∀ p ∈ ps, stS sc p = true

noncomputable def scOk (sc : Scope) (names ps : List Str) : Bool :=
  sc.kind == .function && !sc.isGenerator && !sc.isCoroutine && sc.names.all (fun x => x.2 != .free) && decide ((sc.names.map (·.1)).Nodup) && decide (names.Nodup) && (names.take ps.length == ps) && ps.all (stS sc)
theorem ScOk.of {sc : Scope} {names ps : List Str} (h : scOk sc names ps = true) : ScOk sc names ps := by
  simp only [scOk, Bool.and_eq_true, Bool.not_eq_true', beq_iff_eq, List.all_eq_true, bne_iff_ne, ne_eq, decide_eq_true_eq] at h
  obtain ⟨⟨⟨⟨⟨⟨⟨h1, h2⟩, h3⟩, h4⟩, h5⟩, h6⟩, h7⟩, h8⟩ := h
  exact ⟨h1, h2, h3, h4, h5, h6, h7, h8⟩

theorem bindL_out {k : Str → Option NameKind} {x : Str} : ∀ (bs : List (Str × Value)) (m : Str → Option Value), x ∉ bs.map (·.1) → bindL k bs m x = m x
  | [], _, _ => rfl
  | (n, v) :: r, m, h => by
    simp only [List.map_cons, List.mem_cons, not_or] at h
    rw [bindL, bindL_out r _ h.2]
    split
    · simp [h.1]
    · rfl
theorem bindC_out {k : Str → Option NameKind} {x : Str} : ∀ (bs : List (Str × Value)) (m : Str → Option Value), x ∉ bs.map (·.1) → bindC k bs m x = m x
  | [], _, _ => rfl
  | (n, v) :: r, m, h => by
    simp only [List.map_cons, List.mem_cons, not_or] at h
    rw [bindC, bindC_out r _ h.2]
    split
    · rfl
    · simp [h.1]
theorem bindL_in {k : Str → Option NameKind} {x : Str} {v : Value} (hk : k x = some .local) : ∀ (bs : List (Str × Value)) (m : Str → Option Value), (bs.map (·.1)).Nodup → (x, v) ∈ bs → bindL k bs m x = some v
  | (n, u) :: r, m, nd, h => by
    simp only [List.map_cons, List.nodup_cons] at nd
    rcases List.mem_cons.mp h with e | h
    · cases e
      rw [bindL, bindL_out r _ nd.1, if_pos hk]
      simp
    · rw [bindL]
      exact bindL_in hk r _ nd.2 h
theorem bindC_in {k : Str → Option NameKind} {x : Str} {v : Value} (hk : k x ≠ some .local) : ∀ (bs : List (Str × Value)) (m : Str → Option Value), (bs.map (·.1)).Nodup → (x, v) ∈ bs → bindC k bs m x = some v
  | (n, u) :: r, m, nd, h => by
    simp only [List.map_cons, List.nodup_cons] at nd
    rcases List.mem_cons.mp h with e | h
    · cases e
      rw [bindC, bindC_out r _ nd.1, if_neg hk]
      simp
    · rw [bindC]
      exact bindC_in hk r _ nd.2 h

set_option tactic.hygienic true in
theorem cells_some {x : Str} : ∀ (names : List (Str × NameKind)) (n : Nat) (acc : List (Str × Addr)), names.lookup x = some .cell ∨ (acc.lookup x).isSome = true → ((cellsFrom n names acc).lookup x).isSome = true
  | [], _, _, h => by
    rcases h with h | h
    · simp [List.lookup] at h
    · exact h
  | (y, k) :: r, n, acc, h => by
    unfold cellsFrom
    by_cases e : (x == y) = true
    · have : x = y := by simpa using e
      subst this
      simp only [List.lookup, beq_self_eq_true] at h
      split
      · exact cells_some r _ _ (.inr (by simp [List.lookup]))
      · rename_i hk
        rcases h with h | h
        · simp only [Option.some.injEq] at h
          subst h
          exact absurd (by rfl) hk
        · exact cells_some r _ _ (.inr h)
    · simp only [Bool.not_eq_true] at e
      simp only [List.lookup, e] at h
      split
      · refine cells_some r _ _ (h.imp id fun h => ?_)
        simp only [List.lookup, e]; exact h
      · exact cells_some r _ _ h
theorem cellsFrom_nodup : ∀ (names : List (Str × NameKind)) (n : Nat) (acc : List (Str × Addr)), (names.map (·.1)).Nodup → (acc.map (·.1)).Nodup → (∀ x ∈ names.map (·.1), x ∉ acc.map (·.1)) → ((cellsFrom n names acc).map (·.1)).Nodup
  | [], _, _, _, h, _ => h
  | (y, k) :: r, n, acc, nd, h, hx => by
    simp only [List.map_cons, List.nodup_cons] at nd
    simp only [List.map_cons, List.mem_cons, forall_eq_or_imp] at hx
    unfold cellsFrom
    split
    · refine cellsFrom_nodup r _ _ nd.2 (by simp only [List.map_cons, List.nodup_cons]; exact ⟨hx.1, h⟩) fun x hxm => ?_
      simp only [List.map_cons, List.mem_cons, not_or]
      exact ⟨fun e => nd.1 (e ▸ hxm), hx.2 x hxm⟩
    · exact cellsFrom_nodup r _ _ nd.2 h hx.2

noncomputable def flD : Fl → D
  | .next => .none
  | .ret d => d

section
variable {X : Cx} {n : Nat} {sc : Scope} {names : List Str}

theorem CallSem.le {f : Str} {ds : List D} {σ : Sg} {Q : D → Sg → Prop} {k : Nat} (h : CallSem X n f ds σ Q) (hk : n ≤ k) : CallSem X k f ds σ Q :=
  fun a ha => (h a ha).mono hk fun xx xx q => q
theorem CallSem.mono {f : Str} {ds : List D} {σ : Sg} {Q Q' : D → Sg → Prop} (h : CallSem X n f ds σ Q) (hq : ∀ d σ, Q d σ → Q' d σ) : CallSem X n f ds σ Q' := fun a ha => (h a ha).mono (Nat.le_refl _) hq

theorem call_open {a : Addr} {ps : List Str} {body : List Stmt} {ds : List D} {σ : Sg} (G : Gnd X) (hf : FnAt X a sc ps body) (hs : ScOk sc names ps) (hlen : ds.length = ps.length) {A : Around} {s : Shared} {Φ : Fz} {vs : List Value} {R : Result → Shared → Prop}
    (hroom : Room X (n + 1) A) (ok : Ok X.g σ Φ s.heap) (hr : RdAll Φ vs ds)
    (h : ∀ env s₁, env.scope = sc → EnvOk env → env.frame = some env.locals → env.cells = cellsFrom (env.locals + 1) sc.names [] → (∃ h' tk, s₁ = { s with heap := h', toks := tk }) → Inv X env names (fun b => if σ b = none then s.heap.get? b else none) Φ (ds.map .val ++ List.replicate (names.length - ps.length) .unb) σ Φ s₁.heap →
      wpAny (model X.prog X.w) (A.deeper env) (execs body env) (fun f s' => R (.ok (.ret (match f with | .ret v => v | _ => .none))) s')
        (fun e s' => wpAny (model X.prog X.w) (A.deeper env) (leaving env e) (fun xx s'' => R (.error e) s'') (fun e' s'' => R (.error e') s'') s') s₁) :
    codeAny (model X.prog X.w) A (.call (.ref a) ⟨vs, []⟩) R s := by
  obtain ⟨o, fd, h2, h3, rfl, hbody, hgl, hbl, hclo, hcd, hbind⟩ := hf
  have hvl : vs.length = ps.length := hr.length.trans hlen
  have ho := (ok.base _ _ h2).1
  have keepG : ∀ b o, X.g.get? b = some o → s.heap.get? b = some o := fun b o e => (ok.base b o e).1
  have hpn : ∀ p ∈ ps, fd.scope.names.lookup p = some .local ∨ fd.scope.names.lookup p = some .cell := fun p hp => by
    have := hs.st p hp
    unfold stS at this
    split at this
    · exact .inl (by assumption)
    · exact .inr (by assumption)
    · cases this
  have zmap : (ps.zip vs).map (·.1) = ps := by rw [List.map_fst_zip]; (first | with_reducible exact oox ‹_› | omega)
  have psnd : ps.Nodup := by rw [← hs.pre]; exact hs.nd.sublist (List.take_sublist _ _)
  refine (codeAny_call_cells (body := body) (by have := hroom.2.1; omega) ho h3 (G.lim.keeps keepG) (hcd.keeps keepG) hbody (hbind vs hvl) hclo (fun x hx => ?_) (fun s₁ x => ?_) hs.cor hs.gen hs.kind)
  · have hxp : x.1 ∈ ps := (List.of_mem_zip (show (x.1, x.2) ∈ ps.zip vs from hx)).1
    rcases hpn x.1 hxp with q | q
    · exact .inl q
    · exact .inr ⟨q, cells_some _ _ _ (.inl q)⟩
  generalize hL : s.heap.objs.size = L at x ⊢
  generalize henv : callEnvC fd L a = env at x ⊢
  have eloc : env.locals = L := by rw [← henv]; rfl
  have ecl : env.cells = cellsFrom (L + 1) fd.scope.names [] := by rw [← henv]; rfl
  have esc : env.scope = fd.scope := by rw [← henv]; rfl
  have eo : EnvOk env := by
    refine ⟨?_, ?_, ?_⟩
    · rw [esc]; exact hs.kind
    · rw [← henv]; exact hgl
    · rw [← henv]; exact hbl
  have clnd : (env.cells.map (·.1)).Nodup := by rw [ecl]; exact cellsFrom_nodup _ _ _ hs.nds (by simp) (by simp)
  have fresh : ∀ b, Own env (fun xx => none) b → s.heap.get? b = none := fun b hb => by
    rcases hb with hb | ⟨m, hb⟩ | ⟨_, hb⟩
    · exact none_of_ge (by rw [hb, eloc, hL]; exact Nat.le_refl _)
    · have := x.above m b hb
      rw [eloc] at this
      exact none_of_ge (by rw [hL]; exact Nat.le_of_lt this)
    · cases hb
  have keep := x.toInCall.keep
  have fgr : ∀ b, s.heap.get? b = none → X.g.get? b = none := fun b hb => by
    cases e : X.g.get? b with
    | none => rfl
    | some o => rw [keepG b o e] at hb; cases hb
  have hlt : ps.length ≤ names.length := by
    have := congrArg List.length hs.pre
    rw [List.length_take] at this; omega
  have F : FrameX X.g env names (ds.map .val ++ List.replicate (names.length - ps.length) .unb) σ Φ s₁.heap (bindL env.kindOf (ps.zip vs) fun xx => none) (bindC env.kindOf (ps.zip vs) fun xx => none) (fun xx => none) := {
    nd := hs.nd
    len := by simp; omega
    ns := x.toInCall.ns
    cell := x.cell
    cellsIn := fun m c hm => let ⟨o, ho, _⟩ := x.cell m c (lookup_of_mem_nodup clnd hm); ⟨o, ho⟩
    hasCell := fun y hy => by
      rw [Env.kindOf_sc esc] at hy
      rw [ecl]
      rcases hy with hy | hy
      · exact cells_some _ _ _ (.inl hy)
      · exact absurd rfl (hs.free _ (mem_of_lookup hy))
    apart := x.apart
    offc := fun m c hm => Nat.ne_of_gt (x.above m c hm)
    priv := fun b hb => ⟨ok.freshS (fresh b hb), ok.freshF (fresh b hb), fgr b (fresh b hb)⟩
    vars := fun i y hi hacc => by
      by_cases hlt' : i < ps.length
      · have hd : i < ds.length := by first | with_reducible exact ooe ‹_› ‹_› | omega
        have e1 : (ds.map MV.val ++ List.replicate (names.length - ps.length) MV.unb).getD i MV.unb = .val ds[i] := by
          simp [List.getD, List.getElem?_append, hd]
        rw [e1]
        have hy : ps[i]? = some y := by rw [← hs.pre, List.getElem?_take, if_pos hlt']; exact hi
        obtain ⟨v, hv, rd⟩ := hr.get (k := i) (List.getElem?_eq_getElem hd)
        have hmem : (y, v) ∈ ps.zip vs := by
          refine List.mem_of_getElem? (i := i) ?_
          rw [List.getElem?_zip_eq_some]
          exact ⟨hy, hv⟩
        have hyp : y ∈ ps := List.mem_of_getElem? hy
        refine ⟨rfl, v, ?_, rd⟩
        unfold look
        rcases hpn y hyp with q | q
        · have q' : env.kindOf y = some .local := by rw [Env.kindOf_sc esc]; exact q
          rw [q']
          exact bindL_in q' _ _ (by rw [zmap]; exact psnd) hmem
        · have q' : env.kindOf y = some .cell := by rw [Env.kindOf_sc esc]; exact q
          rw [q']
          exact bindC_in (by rw [q']; simp) _ _ (by rw [zmap]; exact psnd) hmem
      · have e1 : (ds.map MV.val ++ List.replicate (names.length - ps.length) MV.unb).getD i MV.unb = .unb := by
          simp only [List.getD, List.getElem?_append, List.length_map, List.getElem?_replicate]
          rw [if_neg (by omega)]
          split <;> rfl
        rw [e1]
        rfl
    inj := fun xx xx xx e => by cases e
    offm := fun xx xx e => by cases e
    live := fun xx xx e => by cases e }
  have okk : Ok X.g σ Φ s₁.heap := by
    obtain ⟨h', tk, rfl⟩ := x.toInCall.same
    exact (Step.keeps (tk := tk) ok keep).ok
  have I : Inv X env names (fun b => if σ b = none then s.heap.get? b else none) Φ (ds.map .val ++ List.replicate (names.length - ps.length) .unb) σ Φ s₁.heap := by
    refine ⟨okk, Fz.le.refl _, fun b o e => ?_, fun b xx hf => hf, _, _, _, F, fun b hb => ?_⟩
    · split at e
      · exact ⟨keep b o e, by assumption⟩
      · cases e
    · split
      · exact fresh b hb
      · rfl
  exact h env s₁ esc eo (by rw [← henv]; rfl) (by rw [ecl, eloc]) x.toInCall.same I

theorem call_at {a : Addr} {ps : List Str} {body : List Stmt} {ms : List S} {ds : List D} {σ : Sg} {Q : D → Sg → Prop} (G : Gnd X) (hf : FnAt X a sc ps body) (hs : ScOk sc names ps) (hb : SSs X n sc names body ms) (hlen : ds.length = ps.length)
    (h : mExecs X n ms (ds.map .val ++ List.replicate (names.length - ps.length) .unb) σ (fun fl xx σ' => (∀ b, σ b ≠ none → σ' b ≠ none) ∧ Q (flD fl) σ')) : CallA X (n + 1) (.ref a) ds σ Q := by
  intro A s Φ vs hroom ok hr
  refine call_open (n := n) G hf hs hlen hroom ok hr fun env s₁ esc eo xx xx sm₁ I => ?_
  refine wpAny_mono (hb env _ s₁ _ Φ _ σ Φ _ esc eo hroom.deeper I h) ?_ fun xx xx h => h.elim
  rintro fl s₂ ⟨fl', ρ', σ', Φ', hs₂, I₂, le, fr, hd, q⟩
  have sm : ∃ h' tk, s₂ = { s with heap := h', toks := tk } := by
    obtain ⟨h', tk, rfl⟩ := sm₁
    obtain ⟨h'', tk', rfl⟩ := hs₂
    exact ⟨h'', tk', rfl⟩
  have prot : ∀ b o, s.heap.get? b = some o → σ b = none → s₂.heap.get? b = some o ∧ σ' b = none := fun b o e hn => I₂.prot b o (by rw [if_pos hn]; exact e)
  have st : Step X.g s s₂ Φ Φ' σ σ' := by
    refine ⟨sm, fun b o e hn => (prot b o e hn).1, I₂.mono0, I₂.ok, fun b hb' => ?_, fun b hb' => ?_, fun b hb' => ?_⟩
    · by_cases hn : σ b = none
      · cases e : s.heap.get? b with
        | none => exact .inr rfl
        | some o => exact absurd (prot b o e hn).2 hb'
      · exact .inl hn
    · by_cases hn : σ b = none
      · cases e : s.heap.get? b with
        | none => exact .inr (.inr rfl)
        | some o => exact .inl (I₂.priv b (by rw [if_pos hn, e]; simp) hb')
      · exact .inr (.inl hn)
    · cases e : s.heap.get? b with
      | none => rfl
      | some o =>
        by_cases hn : σ b = none
        · rw [(prot b o e hn).1] at hb'; cases hb'
        · have := hd b hn
          cases e' : σ' b with
          | none => exact absurd e' this
          | some t => obtain ⟨o', ho'⟩ := (I₂.ok.trk b t e').isSome; rw [ho'] at hb'; cases hb'
  cases fl' with
  | next =>
    cases fl <;> simp only [FlRel] at fr
    exact ⟨_, σ', Φ', st, .none, q⟩
  | ret d =>
    cases fl <;> simp only [FlRel] at fr
    exact ⟨_, σ', Φ', st, fr, q⟩
theorem call_intro {f : Str} {ps : List Str} {body : List Stmt} {ms : List S} {ds : List D} {σ : Sg} {Q : D → Sg → Prop} (G : Gnd X) (hf : FnIs X f sc ps body) (hs : ScOk sc names ps) (hb : SSs X n sc names body ms) (hlen : ds.length = ps.length)
    (h : mExecs X n ms (ds.map .val ++ List.replicate (names.length - ps.length) .unb) σ (fun fl xx σ' => (∀ b, σ b ≠ none → σ' b ≠ none) ∧ Q (flD fl) σ')) : CallSem X (n + 1) f ds σ Q := by
  intro a ha
  obtain ⟨a', h1, hf⟩ := hf
  rw [ha] at h1; cases h1
  exact call_at G hf hs hb hlen h
end
mutual
inductive Der (σ : Sg) : D → D → Prop
  | same (d : D) : Der σ d d
  | ref {a : Addr} {ds es : List D} : σ a = some (.list ds) → DerAll σ ds es → Der σ (.ref a) (.lst es)
  | tup {ds es : List D} : DerAll σ ds es → Der σ (.tup ds) (.tup es)
  | lst {ds es : List D} : DerAll σ ds es → Der σ (.lst ds) (.lst es)
inductive DerAll (σ : Sg) : List D → List D → Prop
  | nil : DerAll σ [] []
  | cons {d e : D} {ds es : List D} : Der σ d e → DerAll σ ds es → DerAll σ (d :: ds) (e :: es)
end
theorem DerAll.same {σ : Sg} : ∀ ds : List D, DerAll σ ds ds
  | [] => .nil
  | d :: ds => .cons (.same d) (DerAll.same ds)
theorem DerAll.map {σ : Sg} {α : Type} {f g : α → D} : ∀ {l : List α}, (∀ x ∈ l, Der σ (f x) (g x)) → DerAll σ (l.map f) (l.map g)
  | [], _ => .nil
  | x :: l, h => .cons (h x List.mem_cons_self) (DerAll.map fun y hy => h y (List.mem_cons_of_mem _ hy))

noncomputable def lendF (Φ : Fz) (σ : Sg) (h : Heap) : Fz := fun b => match Φ b with
  | some o => some o
  | none => match σ b with
    | some (.list _) => h.get? b
    | _ => none
theorem lendF_le {Φ : Fz} {σ : Sg} {h : Heap} : Fz.le Φ (lendF Φ σ h) := fun b o e => by unfold lendF; rw [e]
theorem lendF_at {g : Heap} {Φ : Fz} {σ : Sg} {h : Heap} {b : Addr} {ds : List D} (ok : Ok g σ Φ h) (e : σ b = some (.list ds)) : lendF Φ σ h b = h.get? b := by
  unfold lendF
  cases q : Φ b with
  | some o => rw [(ok.frz b o q).2] at e; cases e
  | none => rw [e]
mutual
theorem Der.rd {g : Heap} {Φ : Fz} {σ : Sg} {h : Heap} (ok : Ok g σ Φ h) : ∀ {d e : D} {v : Value}, Der σ d e → Rd Φ v d → Rd (lendF Φ σ h) v e
  | _, _, _, .same _, r => r.mono lendF_le
  | _, _, _, .ref e q, r => by
    cases r
    obtain ⟨vs, ⟨n, hl⟩, ra⟩ := ok.trk _ _ e
    exact .lst ((lendF_at ok e).trans hl) rfl rfl rfl (DerAll.rd ok q ra)
  | _, _, _, .tup q, r => by
    cases r with
    | tup h1 h2 h3 r => exact .tup (lendF_le _ _ h1) h2 h3 (DerAll.rd ok q r)
  | _, _, _, .lst q, r => by
    cases r with
    | lst h1 h2 h3 h4 r => exact .lst (lendF_le _ _ h1) h2 h3 h4 (DerAll.rd ok q r)
theorem DerAll.rd {g : Heap} {Φ : Fz} {σ : Sg} {h : Heap} (ok : Ok g σ Φ h) : ∀ {ds es : List D} {vs : List Value}, DerAll σ ds es → RdAll Φ vs ds → RdAll (lendF Φ σ h) vs es
  | _, _, _, .nil, r => by cases r; exact .nil
  | _, _, _, .cons q qs, r => by
    cases r with
    | cons r rs => exact .cons (Der.rd ok q r) (DerAll.rd ok qs rs)
end
noncomputable def pin1 (v : Value) : MV → MV
  | .val d => .pin v d
  | m => m
noncomputable def pins (vs : Nat → Value) : Nat → List MV → List MV
  | _, [] => []
  | k, m :: ρ => pin1 (vs k) m :: pins vs (k + 1) ρ
noncomputable def rest1 (old new : MV) : MV := match new with
  | .unb => .unb
  | .val d => match d with
    | .tup _ => .unb
    | .lst _ => .unb
    | .ref _ => .unb
    | d => .val d
  | .mt ds => .mt ds
  | .pin _ _ => match old with
    | .val d => .val d
    | .pin v d => .pin v d
    | _ => .unb
noncomputable def restA : List MV → List MV → List MV
  | m :: ρ, m' :: ρ' => rest1 m m' :: restA ρ ρ'
  | _, _ => []
noncomputable def pinOk (vs : Nat → Value) : Nat → List MV → Prop
  | _, [] => True
  | k, m :: ρ => (match m with | .mt ds => ds.all D.atom = true | .pin w _ => w = vs k | _ => True) ∧ pinOk vs (k + 1) ρ
noncomputable def chOk (σ : Sg) (ρ : List MV) : List Nat → List D → Prop
  | i :: is, e :: es => ((ρ.getD i .unb).onVal fun d => Der σ d e) ∧ chOk σ ρ is es
  | [], [] => True
  | _, _ => False
noncomputable def flAtom : Fl → Prop → Prop
  | .next, P => P
  | .ret d, P => d.onAtom P
noncomputable def S.lend (ch : List Nat) (m : S) : S := fun X n ρ σ Q => ∃ es, chOk σ ρ ch es ∧ ∀ vs, m X n (pins vs 0 (setAll ρ ch es)) empS fun fl ρ' xx => flAtom fl (pinOk vs 0 ρ' ∧ Q fl (restA ρ ρ') σ)

section
variable {X : Cx} {n : Nat} {sc : Scope} {names : List Str}
end
theorem lookup_zip : ∀ (ps : List Str) (vs : List Value) (x : Str), ps.length = vs.length → x ∈ ps → ((ps.zip vs).lookup x).isSome = true
  | p :: ps, v :: vs, x, hl, hx => by
    simp only [List.zip_cons_cons, List.lookup]
    by_cases e : (x == p) = true
    · simp [e]
    · simp only [Bool.not_eq_true] at e
      simp only [e]
      rcases List.mem_cons.mp hx with rfl | hx
      · simp at e
      · exact lookup_zip ps vs x (by simpa using hl) hx
theorem filterMap_zip : ∀ (ps : List Str) (vs : List Value), ps.Nodup → ps.length = vs.length → ∀ (pre : List (Str × Value)), (∀ p ∈ ps, pre.lookup p = none) → ps.filterMap (fun n => ((pre ++ ps.zip vs).lookup n).map (n, ·)) = ps.zip vs
  | [], _, _, _, _, _ => by simp
  | p :: ps, [], _, hl, _, _ => by simp at hl
  | p :: ps, v :: vs, nd, hl, pre, hp => by
    simp only [List.nodup_cons] at nd
    have e1 : (pre ++ (p :: ps).zip (v :: vs)).lookup p = some v := by
      rw [List.lookup_append, hp p (by simp)]
      simp [List.lookup]
    rw [List.filterMap_cons, e1]
    simp only [Option.map_some, List.zip_cons_cons]
    congr 1
    have := filterMap_zip ps vs nd.2 (by simpa using hl) (pre ++ [(p, v)]) fun q hq => by
      rw [List.lookup_append, hp q (by simp [hq])]
      have : (q == p) = false := by
        simp only [beq_eq_false_iff_ne, ne_eq]
        rintro rfl
        exact nd.1 hq
      simp [List.lookup, this]
    simpa using this

set_option tactic.hygienic true in
theorem bind_plain {fd : FuncData} {as : List Arg} {kd : List (Option Expr)} {df : List Expr} {vals : List Value} (hp : fd.params = { posonlyargs := [], args := as, vararg := none, kwonlyargs := [], kw_defaults := kd, kwarg := none, defaults := df })
    (hd : fd.defaults = .none) (nd : (as.map (·.arg)).Nodup) (hl : vals.length = (as.map (·.arg)).length) : bindArgs fd ⟨vals, []⟩ = pure ((as.map (·.arg)).zip vals) := by
  have hm : ((as.map (·.arg)).filter fun n => (((as.map (·.arg)).zip vals).lookup n).isNone) = [] := by
    rw [List.filter_eq_nil_iff]
    intro n hn
    have := lookup_zip _ vals n hl.symm hn
    cases e : ((as.map (·.arg)).zip vals).lookup n with
    | none => rw [e] at this; cases this
    | some v => simp
  have hf := filterMap_zip (as.map (·.arg)) vals nd hl.symm [] (by simp [List.lookup])
  simp only [List.nil_append] at hf
  unfold bindArgs
  rw [hp, hd]
  have hs : seqItems? .none = pure none := rfl
  simp only [hs]
  simp [hl]
  split
  · rename_i hc
    exfalso
    have e : List.take ((List.map (fun x => x.arg) ([] : List Arg) ++ List.map (fun x => x.arg) as).length - (List.drop ((#[] : Array Value).size - (List.map (fun x => x.arg) ([] : List Arg) ++ List.map (fun x => x.arg) as).length) ([] : List Value)).length)
        (List.map (fun x => x.arg) ([] : List Arg) ++ List.map (fun x => x.arg) as) = List.map (fun x => x.arg) as := by
      simp only [List.map_nil, List.nil_append, List.drop_nil, List.length_nil, Nat.sub_zero]
      exact List.take_length
    rw [e, hm] at hc
    simp at hc
  · rw [List.filterMap_map] at hf
    rw [hf]

noncomputable def noRec (f : Str) : DefRec := ⟨f, { posonlyargs := [], args := [], vararg := none, kwonlyargs := [], kw_defaults := [], kwarg := none, defaults := [] }, [], { kind := .function, names := [], isGenerator := false, isCoroutine := false }, ⟨0, 0, 0, 0⟩⟩
noncomputable def recOf (q : Program) (f : Str) : DefRec := ((recsOf q).find? fun d => d.name == f).getD (noRec f)

noncomputable def plainParams (a : Arguments) (ps : List Str) : Bool := match a with
  | { posonlyargs := [], args := as, vararg := none, kwonlyargs := [], kw_defaults := _, kwarg := none, defaults := _ } => (as.map (·.arg) == ps) && decide ps.Nodup
  | _ => false

set_option tactic.hygienic true in
theorem fnIs_of_top {p q prog : Program} {w : World} {loose : List Str} {mean : ExcName → Option Value} {mg mb : Str → Option Value} {h : Heap} (T : Top p loose mean mg mb h) {f : Str} {ps : List Str}
    (e : (recsOf p).find? (fun d => d.name == f) = some (recOf q f)) (hp : plainParams (recOf q f).params ps = true) : FnIs ⟨prog, w, h, mg, mb, true⟩ f (recOf q f).scope ps (recOf q f).body := by
  have hm := List.mem_of_find?_eq_some e
  have hn : (recOf q f).name = f := by simpa using List.find?_some e
  obtain ⟨a, o, pm, code, doc, h1, h2, h3, h4⟩ := T.fn _ hm
  rw [hn] at h1 h4
  refine ⟨a, h1, o, _, h2, h3, rfl, rfl, rfl, rfl, rfl, ?_, fun vals hv => ?_⟩
  · show h.CodeRec code (recOf q f).name
    rw [hn]; exact h4
  · unfold plainParams at hp
    split at hp
    · rename_i as _ _ hpp
      simp only [Bool.and_eq_true, beq_iff_eq, decide_eq_true_eq] at hp
      obtain ⟨rfl, nd⟩ := hp
      exact bind_plain (fd := Calls.docDef (recOf q f).name (recOf q f).params (recOf q f).body (recOf q f).scope pm code doc) hpp rfl nd hv
    · cases hp

noncomputable def bltFree (p : Program) (loose : List Str) : Bool := bNames.all fun x =>
  !(startupNames.contains x.1) && !(loose.contains x.1) && !(((recsOf p).map (·.name)).contains x.1) && !(((litsOf p).map (·.1)).contains x.1) && !(((clssOf p loose).map (·.name)).contains x.1)

theorem boot_names : ∀ x ∈ bNames, x.1 ≠ "__name__" ∧ bootBuiltins x.1 = some x.2 := by
  intro x hx
  have : (bNames.all fun x => x.1 != "__name__" && (match bootBuiltins x.1, x.2 with | some (.builtin a), .builtin b => a == b | some (.type a), .type b => a == b | _, _ => false)) = true := by decide +kernel
  have := List.all_eq_true.mp this x hx
  simp only [Bool.and_eq_true, bne_iff_ne, ne_eq] at this
  refine ⟨this.1, ?_⟩
  have := this.2
  split at this
  · simp_all
  · simp_all
  · cases this

theorem gnd_of_top {p prog : Program} {w : World} {loose : List Str} {mean : ExcName → Option Value} {mg mb : Str → Option Value} {h : Heap} (T : Top p loose mean mg mb h) (hb : bltFree p loose = true) : Gnd ⟨prog, w, h, mg, mb, true⟩ where
  gl := T.g
  bl := T.b
  lim := T.nolimit
  blt := fun x hx => by
    have := List.all_eq_true.mp hb x hx
    simp only [Bool.and_eq_true, Bool.not_eq_true', List.contains_eq_mem, decide_eq_false_iff_not] at this
    obtain ⟨⟨⟨⟨h1, h2⟩, h3⟩, h4⟩, h5⟩ := this
    have hn := boot_names x hx
    exact ⟨T.free x.1 h1 h2 h3 h4 h5, (T.builtins x.1 hn.1).trans hn.2⟩

theorem ints_rd {Φ : Fz} {vs : List Value} {ns : List Int} (h : IntsAre vs ns) : RdAll Φ vs (ns.map D.int) := by
  induction h with
  | nil => exact .nil
  | cons i t _ ih => exact .cons (.int i t) ih

theorem list_plain {P : Params} {h : Heap} {l : Addr} {vs : Array Value} {xs : List PyData} (hL : h.IsList l vs) (hW : W.Well P h (.ref l) (W.ofPy (.list xs))) : ∃ o, h.get? l = some o ∧ o.cls = .type "list" ∧ o.dict = none ∧ ∃ n, o.data = .seq vs n := by
  obtain ⟨o, ho, hc, n, hd⟩ := hL
  have hW : W.Well P h (.ref l) (.list (W.ofPys xs)) := hW
  cases hW with
  | list h1 _ =>
    rw [ho] at h1
    cases h1
    exact ⟨_, ho, hc, rfl, n, hd⟩

noncomputable def nameAt (names : List Str) (i : Nat) (x : Str) : Bool := names[i]? == some x

noncomputable def tgtsB (names : List Str) (sc : Scope) : List Expr → List Nat → Bool
  | [], [] => true
  | .Name x _ :: es, i :: is => nameAt names i x && stS sc x && tgtsB names sc es is
  | _, _ => false
noncomputable def tgtB (names : List Str) (sc : Scope) : Expr → List Nat → Bool
  | .Name x _, [i] => nameAt names i x && stS sc x
  | .Tuple elts _ _, is => tgtsB names sc elts is
  | _, _ => false
noncomputable def tgtsLB (names : List Str) (sc : Scope) : List Expr → List Nat → Bool
  | [], [] => true
  | .Name x _ :: es, i :: is => nameAt names i x && sc.names.lookup x == some .local && tgtsLB names sc es is
  | _, _ => false
noncomputable def tgtLB (names : List Str) (sc : Scope) : Expr → List Nat → Bool
  | .Name x _, [i] => nameAt names i x && sc.names.lookup x == some .local
  | .Tuple elts _ _, is => tgtsLB names sc elts is
  | _, _ => false
noncomputable def compB (sc scope : Scope) (names : List Str) (is : List Nat) : Bool :=
  scope.kind == .function && decide ((scope.names.map (·.1)).Nodup) && scope.names.all (fun y => y.2 != .cell) &&
    scope.names.all (fun y => y.2 != .free || sc.names.lookup y.1 == some .cell || sc.names.lookup y.1 == some .free) &&
    scope.names.all (fun y => y.2 != .local || !names.contains y.1 || is.any fun i => nameAt names i y.1)

theorem nameAt_eq {names : List Str} {i : Nat} {x : Str} (h : nameAt names i x = true) : names[i]? = some x := by simpa [nameAt] using h

theorem tgts_of {names : List Str} {sc : Scope} : ∀ {es : List Expr} {is : List Nat}, tgtsB names sc es is = true → Tgts names sc es is
  | [], [], _ => trivial
  | [], _ :: _, h => by simp [tgtsB] at h
  | e :: es, [], h => by cases e <;> simp [tgtsB] at h
  | e :: es, i :: is, h => by
    cases e <;> simp only [tgtsB, Bool.and_eq_true] at h <;> first | cases h; done | skip
    exact ⟨nameAt_eq h.1.1, h.1.2, tgts_of h.2⟩
theorem tgt_of {names : List Str} {sc : Scope} {e : Expr} {is : List Nat} (h : tgtB names sc e is = true) : TgtOk names sc e is := by
  unfold tgtB at h
  split at h
  · simp only [Bool.and_eq_true] at h
    exact ⟨_, rfl, nameAt_eq h.1, h.2⟩
  · exact tgts_of h
  · cases h
theorem tgtsL_of {names : List Str} {sc : Scope} : ∀ {es : List Expr} {is : List Nat}, tgtsLB names sc es is = true → TgtsL names sc es is
  | [], [], _ => trivial
  | [], _ :: _, h => by simp [tgtsLB] at h
  | e :: es, [], h => by cases e <;> simp [tgtsLB] at h
  | e :: es, i :: is, h => by
    cases e <;> simp only [tgtsLB, Bool.and_eq_true] at h <;> first | cases h; done | skip
    exact ⟨nameAt_eq h.1.1, by simpa using h.1.2, tgtsL_of h.2⟩
theorem tgtL_of {names : List Str} {sc : Scope} {e : Expr} {is : List Nat} (h : tgtLB names sc e is = true) : TgtOkL names sc e is := by
  unfold tgtLB at h
  split at h
  · simp only [Bool.and_eq_true] at h
    exact ⟨_, rfl, nameAt_eq h.1, by simpa using h.2⟩
  · exact tgtsL_of h
  · cases h
theorem comp_of {sc scope : Scope} {names : List Str} {is : List Nat} (h : compB sc scope names is = true) : CompOk sc scope names is := by
  simp only [compB, Bool.and_eq_true, beq_iff_eq, decide_eq_true_eq, List.all_eq_true, bne_iff_ne, ne_eq, Bool.or_eq_true, List.any_eq_true] at h
  obtain ⟨⟨⟨⟨h1, h2⟩, h3⟩, h4⟩, h5⟩ := h
  refine ⟨h1, h2, h3, fun x hx => ?_, fun x hx hn => ?_⟩
  · rcases h4 _ hx with (h | h) | h
    · exact absurd rfl h
    · exact .inl h
    · exact .inr h
  · rcases h5 _ hx with (h | h) | ⟨i, hi, h⟩
    · exact absurd rfl h
    · simp only [Bool.not_eq_true', List.contains_eq_mem, decide_eq_false_iff_not] at h
      exact absurd hn h
    · exact ⟨i, hi, nameAt_eq h⟩


section
variable {X : Cx} {n : Nat} {sc : Scope} {names : List Str}
theorem SE_isint {x : Expr} {e : E} {p p' pos : Pos} (G : Gnd X) (hx : SE X n sc names x e) (hk : sc.names.lookup ("isinstance" : Str) = some .globalImplicit) (hT : sc.names.lookup ("int" : Str) = some .globalImplicit) (hs : notStar x = true) :
    SE X n sc names (.Call (.Name "isinstance" p) [x, .Name "int" p'] [] pos) (.bi .isint [e]) := SE_isi (T := "int") G (by simp) hx hk hT hs
theorem SE_isbool {x : Expr} {e : E} {p p' pos : Pos} (G : Gnd X) (hx : SE X n sc names x e) (hk : sc.names.lookup ("isinstance" : Str) = some .globalImplicit) (hT : sc.names.lookup ("bool" : Str) = some .globalImplicit) (hs : notStar x = true) :
    SE X n sc names (.Call (.Name "isinstance" p) [x, .Name "bool" p'] [] pos) (.bi .isbool [e]) := SE_isi (T := "bool") G (by simp) hx hk hT hs
theorem SE_islist {x : Expr} {e : E} {p p' pos : Pos} (G : Gnd X) (hx : SE X n sc names x e) (hk : sc.names.lookup ("isinstance" : Str) = some .globalImplicit) (hT : sc.names.lookup ("list" : Str) = some .globalImplicit) (hs : notStar x = true) :
    SE X n sc names (.Call (.Name "isinstance" p) [x, .Name "list" p'] [] pos) (.bi .islist [e]) := SE_isi (T := "list") G (by simp) hx hk hT hs
theorem SE_istuple {x : Expr} {e : E} {p p' pos : Pos} (G : Gnd X) (hx : SE X n sc names x e) (hk : sc.names.lookup ("isinstance" : Str) = some .globalImplicit) (hT : sc.names.lookup ("tuple" : Str) = some .globalImplicit) (hs : notStar x = true) :
    SE X n sc names (.Call (.Name "isinstance" p) [x, .Name "tuple" p'] [] pos) (.bi .istuple [e]) := SE_isi (T := "tuple") G (by simp) hx hk hT hs
theorem CondOk.nil : CondOk X n sc names [] none := .inl ⟨rfl, rfl⟩
theorem CondOk.one {c : Expr} {e : E} (h : ST X n sc names c e) : CondOk X n sc names [c] (some e) := .inr ⟨c, e, rfl, rfl, h⟩
end
noncomputable def stmtAt (q : Program) (k : Nat) : Stmt := q.main.body.getD k (.Pass ⟨0, 0, 0, 0⟩)
noncomputable def fnScope : Stmt → Scope
  | .FunctionDef _ _ _ _ _ _ scope _ _ _ => scope
  | _ => { kind := .function, names := [], isGenerator := false, isCoroutine := false }
noncomputable def fnBody : Stmt → List Stmt
  | .FunctionDef _ _ body _ _ _ _ _ _ _ => body
  | _ => []
section
variable {X : Cx} {n : Nat}
theorem forT_inv {bd : List MV → Sg → (Fl → List MV → Sg → Prop) → Prop} {is : List Nat} {Q : Fl → List MV → Sg → Prop} {rows : List (List D)} (I : Nat → List MV → Sg → Prop) {ρ : List MV} {σ : Sg} (h0 : I 0 ρ σ)
    (step : ∀ j (hj : j < rows.length) ρ σ, I j ρ σ → bd (setAll ρ is rows[j]) σ fun fl ρ' σ' => match fl with | .next => I (j + 1) ρ' σ' | .ret d => Q (.ret d) ρ' σ')
    (fin : ∀ ρ σ, I rows.length ρ σ → Q .next ρ σ) : forT bd is rows ρ σ Q := by
  have key : ∀ k j ρ σ, k = rows.length - j → j ≤ rows.length → I j ρ σ → forT bd is (rows.drop j) ρ σ Q := by
    intro k
    induction k with
    | zero =>
      intro j ρ σ hk hj hI
      have : j = rows.length := by omega
      subst this
      rw [List.drop_length]
      exact fin _ _ hI
    | succ k ih =>
      intro j ρ σ hk hj hI
      have hlt : j < rows.length := by omega
      rw [List.drop_eq_getElem_cons hlt]
      exact ⟨_, step j hlt ρ σ hI, fun xx xx xx z => z, fun ρ σ z => ih (j + 1) ρ σ (by omega) (by first | with_reducible exact Nat.succ_le_of_lt ‹_› | omega) z⟩
  have := key rows.length 0 ρ σ (by omega) (by first | with_reducible exact Nat.zero_le _ | omega) h0
  simpa using this

theorem for_inv {body : List S} {is : List Nat} {Q : Fl → List MV → Sg → Prop} {rows : List (List D)} (I : Nat → List MV → Sg → Prop) {ρ : List MV} {σ : Sg} (h0 : I 0 ρ σ)
    (step : ∀ j (hj : j < rows.length) ρ σ, I j ρ σ → mExecs X n body (setAll ρ is rows[j]) σ fun fl ρ' σ' => match fl with | .next => I (j + 1) ρ' σ' | .ret d => Q (.ret d) ρ' σ')
    (fin : ∀ ρ σ, I rows.length ρ σ → Q .next ρ σ) : forT (mExecs X n body) is rows ρ σ Q :=
  forT_inv I h0 step fin

theorem comp_map {cond elt : List MV → Sg → (D → Sg → Prop) → Prop} {ρ : List MV} {is : List Nat} {σ : Sg} (p : List D → Bool) (f : List D → D) : ∀ {rows : List (List D)} {Q : List D → Sg → Prop},
    (∀ r ∈ rows, ∀ K : D → Sg → Prop, K (.bool (p r)) σ → cond (setAll ρ is r) σ K) → (∀ r ∈ rows, p r = true → ∀ K : D → Sg → Prop, K (f r) σ → elt (setAll ρ is r) σ K) → Q ((rows.filter p).map f) σ → compT cond elt ρ is rows σ Q
  | [], Q, _, _, h => h
  | r :: rs, Q, hc, he, h => by
    simp only [compT]
    refine hc r (by simp) _ (show if p r = true then _ else _ from ?_)
    cases hp : p r with
    | true =>
      simp only [if_true]
      refine he r (by simp) hp _ (comp_map p f (fun r hr => hc r (by simp [hr])) (fun r hr => he r (by simp [hr])) ?_)
      simpa [hp] using h
    | false =>
      simp only [Bool.false_eq_true, if_false]
      refine comp_map p f (fun r hr => hc r (by simp [hr])) (fun r hr => he r (by simp [hr])) ?_
      simpa [hp] using h
end
section
variable {Q : D → Prop} {R : Bool → Prop} {i j : Int}
theorem b_add : binT .add (.int i) (.int j) Q = Q (.int (i + j)) := rfl
theorem b_sub : binT .sub (.int i) (.int j) Q = Q (.int (i - j)) := rfl
theorem b_mul : binT .mul (.int i) (.int j) Q = ((small i ∨ small j) ∧ Q (.int (i * j))) := rfl
theorem b_div : binT .fdiv (.int i) (.int j) Q = (j ≠ 0 ∧ small j ∧ Q (.int (i.fdiv j))) := rfl
theorem b_mod : binT .mod (.int i) (.int j) Q = (j ≠ 0 ∧ Q (.int (i.fmod j))) := rfl
theorem c_lt : cmpT .lt (.int i) (.int j) R = R (decide (i < j)) := rfl
theorem c_le : cmpT .le (.int i) (.int j) R = R (decide (i ≤ j)) := rfl
theorem c_gt : cmpT .gt (.int i) (.int j) R = R (decide (j < i)) := rfl
theorem c_ge : cmpT .ge (.int i) (.int j) R = R (decide (j ≤ i)) := rfl
theorem c_eqx {x y : D} : cmpT .eq x y R = (x.ok 8 = true ∧ y.ok 8 = true ∧ R (eqv x y)) := rfl
theorem c_nex {x y : D} : cmpT .ne x y R = (x.ok 8 = true ∧ y.ok 8 = true ∧ R (!eqv x y)) := rfl
theorem eqv_int : eqv (.int i) (.int j) = decide (i = j) := by
  show (i == j) = _
  exact Bool.beq_eq_decide_eq i j
theorem c_eq : cmpT .eq (.int i) (.int j) R = R (decide (i = j)) := by
  rw [c_eqx, eqv_int]; simp [D.ok]
theorem c_ne : cmpT .ne (.int i) (.int j) R = R (decide (i ≠ j)) := by
  rw [c_nex, eqv_int]; simp [D.ok]
theorem c_in {x : D} {ds : List D} : cmpT .in_ x (.lst ds) R = (x.ok 8 = true ∧ D.ok 9 (.lst ds) = true ∧ R (ds.any fun y => eqv y x)) := rfl
theorem c_is {x : D} : cmpT .is_ x .none R = R x.isNone := propext ⟨fun h => h.2, fun h => ⟨rfl, h⟩⟩
theorem c_isn {x : D} : cmpT .isn x .none R = R (!x.isNone) := propext ⟨fun h => h.2, fun h => ⟨rfl, h⟩⟩
theorem cond_bool {b : Bool} {x y : Prop} : condT (.bool b) x y = (if b = true then x else y) := rfl
theorem not_bool {b : Bool} {Q : Bool → Prop} : notT (.bool b) Q = Q (!b) := rfl
theorem i_lst {ds : List D} {k : Int} : idxT (.lst ds) (.int k) Q = (0 ≤ k ∧ k < 2 ^ 63 ∧ ∃ d, ds[k.toNat]? = some d ∧ Q d) := rfl
theorem i_tup {ds : List D} {k : Int} : idxT (.tup ds) (.int k) Q = (0 ≤ k ∧ k < 2 ^ 63 ∧ ∃ d, ds[k.toNat]? = some d ∧ Q d) := rfl
theorem i_ints {ns : List Int} {k : Int} : idxT (.lst (ns.map D.int)) (.int k) Q = (0 ≤ k ∧ k < 2 ^ 63 ∧ k < ns.length ∧ Q (.int (ns.getD k.toNat 0))) := by
  rw [i_lst]
  apply propext
  simp only [List.getElem?_map, Option.map_eq_some_iff]
  constructor
  · rintro ⟨h0, h1, d, ⟨i, hi, rfl⟩, q⟩
    have hk := (List.getElem?_eq_some_iff.mp hi).1
    refine ⟨h0, h1, by first | decide | omega, ?_⟩
    simpa [List.getD, hi] using q
  · rintro ⟨h0, h1, h2, q⟩
    have hk : k.toNat < ns.length := by first | decide | omega
    refine ⟨h0, h1, _, ⟨ns[k.toNat], List.getElem?_eq_getElem hk, rfl⟩, ?_⟩
    simpa [List.getD, List.getElem?_eq_getElem hk] using q
theorem f_len {ds : List D} : biT .len [.lst ds] Q = (ds.length ≤ 2 ^ 20 ∧ Q (.int ds.length)) := rfl
theorem f_lenT {ds : List D} : biT .len [.tup ds] Q = (ds.length ≤ 2 ^ 20 ∧ Q (.int ds.length)) := rfl
theorem f_sum {ns : List Int} : biT .sum [.lst (ns.map D.int)] Q = Q (.int ns.sum) := by
  apply propext
  constructor
  · rintro ⟨ms, e, q⟩
    have : ns = ms := List.map_inj_right (fun xx xx h => by cases h; rfl) |>.mp (D.lst.inj (List.cons.inj e).1)
    rw [this]; exact q
  · intro q; exact ⟨ns, rfl, q⟩
theorem f_min2 : biT .min2 [.int i, .int j] Q = Q (.int (min i j)) := rfl
theorem f_isint : biT .isint [.int i] Q = Q (.bool true) := rfl
theorem f_isbool : biT .isbool [.int i] Q = Q (.bool false) := rfl
theorem f_islist {ds : List D} : biT .islist [.lst ds] Q = Q (.bool true) := rfl
theorem f_istup {ds : List D} : biT .istuple [.tup ds] Q = Q (.bool true) := rfl
theorem f_tuple1 {ds : List D} : biT .tuple1 [.lst ds] Q = (ds.length ≤ 2 ^ 20 ∧ Q (.tup ds)) := rfl
theorem i_0 {a : D} {l : List D} : idxT (.lst (a :: l)) (.int 0) Q = Q a := by rw [i_lst]; simp
theorem t_0 {a : D} {l : List D} : idxT (.tup (a :: l)) (.int 0) Q = Q a := by rw [i_tup]; simp
theorem t_1 {a b : D} {l : List D} : idxT (.tup (a :: b :: l)) (.int 1) Q = Q b := by rw [i_tup]; simp
theorem t_2 {a b c : D} {l : List D} : idxT (.tup (a :: b :: c :: l)) (.int 2) Q = Q c := by rw [i_tup]; simp
theorem keepS {σ : Sg} : (∀ b : Addr, σ b ≠ none → σ b ≠ none) = True := by simp
theorem g_z {α : Type} {x d : α} {l : List α} : List.getD (x :: l) 0 d = x := rfl
theorem g_s {α : Type} {x d : α} {l : List α} {n : Nat} : List.getD (x :: l) (n + 1) d = List.getD l n d := rfl
theorem q_val {x : D} {P : D → Prop} : (MV.val x).onVal P = P x := rfl
theorem q_mt {x : List D} {P : List D → Prop} : (MV.mt x).onMt P = P x := rfl
theorem q_int {x : Int} {P : Int → Prop} : (D.int x).onInt P = P x := rfl
theorem q_lst {x : List D} {P : List D → Prop} : (D.lst x).onLst P = P x := rfl
theorem q_tup {x : List D} {P : List D → Prop} : (D.tup x).onTup P = P x := rfl
theorem q_one {x : List D} {P : List (List D) → Prop} : seqT 1 (.lst x) P = P (x.map fun d => [d]) := rfl
theorem q_onet {x : List D} {P : List (List D) → Prop} : seqT 1 (.tup x) P = P (x.map fun d => [d]) := rfl
theorem q_ll {x : Str} {P : Prop} : D.onAtom (.str x) P = P := rfl
theorem at_b {b : Bool} {P : Prop} : D.onAtom (.bool b) P = P := rfl
theorem at_i {i : Int} {P : Prop} : D.onAtom (.int i) P = P := rfl
theorem ev_nil {X : Cx} {n : Nat} {ρ : List MV} {σ : Sg} {Q : List D → Sg → Prop} : mEvals X n [] ρ σ Q = Q [] σ := rfl
theorem ev_cons {X : Cx} {n : Nat} {e : E} {es : List E} {ρ : List MV} {σ : Sg} {Q : List D → Sg → Prop} : mEvals X n (e :: es) ρ σ Q = e X n ρ σ fun d σ => mEvals X n es ρ σ fun ds σ => Q (d :: ds) σ := rfl
theorem cd_some {X : Cx} {n : Nat} {e : E} {ρ : List MV} {σ : Sg} {Q : D → Sg → Prop} : mCond X n (some e) ρ σ Q = e X n ρ σ Q := rfl
end
theorem fmod_nn {a b : Int} (h : 0 < b) : 0 ≤ a.fmod b := by
  rw [Int.fmod_eq_emod_of_nonneg a (by first | decide | with_reducible exact Int.le_of_lt ‹_› | omega)]; exact Int.emod_nonneg a (by first | decide | omega)
theorem fmod_ltt {a b : Int} (h : 0 < b) : a.fmod b < b := by
  rw [Int.fmod_eq_emod_of_nonneg a (by first | decide | with_reducible exact Int.le_of_lt ‹_› | omega)]; exact Int.emod_lt_of_pos a h

noncomputable def M.cell : List S :=
  [.iff (.cmp .lt (.var 1) (.bi .len [(.var 0)])) [.ret (.idx (.var 0) (.var 1))] [],
    .asg 2 (.bin .add (.bin .mul (.var 1) (.cst (.int 7919))) (.cst (.int 5))),
    .iff (.cmp .gt (.bi .len [(.var 0)]) (.cst (.int 0)))
      [.asg 2 (.bin .mod (.bin .add (.bin .mul (.idx (.var 0) (.bin .mod (.bin .mul (.var 1) (.cst (.int 7))) (.bi .len [(.var 0)]))) (.cst (.int 48271))) (.bin .mul (.var 1) (.cst (.int 7919)))) (.cst (.int 2147483647)))]
      [],
    .ret (.bin .mod (.bin .mul (.var 2) (.var 2)) (.cst (.int 2147483629)))]
noncomputable def M.whole : List S := [.ret (.and_ (.bi .isint [(.var 0)]) (.not_ (.bi .isbool [(.var 0)])))]

noncomputable def cellV (ns : List Int) (k : Int) : Int :=
  if k < ns.length then ns.getD k.toNat 0
  else
    let m := if 0 < (ns.length : Int) then (ns.getD ((k * 7).fmod ns.length).toNat 0 * 48271 + k * 7919).fmod 2147483647 else k * 7919 + 5
    (m * m).fmod 2147483629

theorem ms_cons {X : Cx} {n : Nat} {s : S} {ss : List S} {ρ : List MV} {σ : Sg} {Q : Fl → List MV → Sg → Prop} :
    mExecs X n (s :: ss) ρ σ Q = mExec X n s ρ σ fun fl ρ' σ' => match fl with | .next => mExecs X n ss ρ' σ' Q | .ret d => Q (.ret d) ρ' σ' := rfl
theorem ms_nil {X : Cx} {n : Nat} {ρ : List MV} {σ : Sg} {Q : Fl → List MV → Sg → Prop} : mExecs X n [] ρ σ Q = Q .next ρ σ := rfl
theorem map_headD (l : List D) : ((l.map fun d => [d]).map fun r => r.headD .none) = l := by
  rw [List.map_map]
  exact List.map_id l
theorem filter_all {α : Type} (l : List α) : l.filter (fun xx => true) = l := List.filter_eq_self.mpr (by simp)

section
variable {X : Cx} {n : Nat} {σ : Sg}
set_option tactic.hygienic true in
theorem cell_spec {ns : List Int} {k : Int} {Q : D → Sg → Prop} (hl : ns.length ≤ 63) (h0 : 0 ≤ k) (h1 : k ≤ 100000) (q : Q (.int (cellV ns k)) σ) :
    mExecs X n M.cell [.val (.lst (ns.map D.int)), .val (.int k), .unb] σ (fun fl xx σ' => (∀ b, σ b ≠ none → σ' b ≠ none) ∧ Q (flD fl) σ') := by
  simp only [M.cell, ms_cons, ms_nil, ev_nil, ev_cons, E.cst, E.var, E.bin, E.cmp, E.and_, E.not_, E.idx, E.bi, S.iff, S.asg, S.ret, q_val, b_add, b_mul, b_mod, c_lt, c_gt, f_len, cond_bool, i_ints, g_z, g_s, List.set_cons_zero, List.set_cons_succ, flD, keepS, true_and, decide_eq_true_eq, List.length_map]
  unfold cellV at q
  refine ⟨by first | decide | with_reducible exact oo3 ‹_› | omega, ?_⟩
  split at q
  · rename_i hk
    rw [if_pos hk]
    exact ⟨h0, by first | decide | omega, hk, q⟩
  · rename_i hk
    rw [if_neg hk]
    refine ⟨.inr ⟨by first | decide | omega, by first | decide | omega⟩, by first | decide | with_reducible exact oo3 ‹_› | omega, ?_⟩
    by_cases hz : 0 < (ns.length : Int)
    · simp only [if_pos hz] at q ⊢
      have a0 := fmod_nn (a := k * 7) hz
      have a1 := fmod_ltt (a := k * 7) hz
      refine ⟨.inr ⟨by first | decide | omega, by first | decide | omega⟩, by first | decide | with_reducible exact oo3 ‹_› | omega, by first | decide | omega, a0, by first | decide | omega, a1, .inr ⟨by first | decide | omega, by first | decide | omega⟩, .inr ⟨by first | decide | omega, by first | decide | omega⟩, by first | decide | omega, .inr ⟨?_, ?_⟩, by first | decide | omega, q⟩
      · exact Int.le_trans (by first | decide | omega) (fmod_nn (by first | decide | omega))
      · exact Int.lt_trans (fmod_ltt (by first | decide | omega)) (by first | decide | omega)
    · simp only [if_neg hz] at q ⊢
      exact ⟨.inr ⟨by first | decide | omega, by first | decide | omega⟩, by first | decide | omega, q⟩
noncomputable def HasCell (X : Cx) : Prop := ∀ {n : Nat} {σ : Sg} {ns : List Int} {k : Int} {Q : D → Sg → Prop}, ns.length ≤ 63 → 0 ≤ k → k ≤ 100000 → Q (.int (cellV ns k)) σ → CallSem X (n + 1) "_law_cell" [.lst (ns.map D.int), .int k] σ Q
end
mutual
noncomputable def D.plain : D → Bool
  | .none => true
  | .bool _ => false
  | .int _ => true
  | .str _ => true
  | .tup ds => D.plains ds
  | .lst ds => D.plains ds
  | .ref _ => false
noncomputable def D.plains : List D → Bool
  | [] => true
  | d :: ds => D.plain d && D.plains ds
end
mutual
theorem eqv_eq : ∀ (a b : D), a.plain = true → b.plain = true → (PyData.eqv a.py b.py = true ↔ a = b)
  | .none, b, ha, hb => by cases b <;> simp [D.py, PyData.eqv, D.plain] at hb ⊢
  | .bool _, b, ha, hb => by simp [D.plain] at ha
  | .int i, b, ha, hb => by cases b <;> simp [D.py, PyData.eqv, D.plain] at hb ⊢
  | .str i, b, ha, hb => by cases b <;> simp [D.py, PyData.eqv, D.plain] at hb ⊢
  | .tup ds, b, ha, hb => by
    cases b <;> simp [D.py, PyData.eqv, D.plain] at ha hb ⊢
    exact eqvs_eq ds _ ha hb
  | .lst ds, b, ha, hb => by
    cases b <;> simp [D.py, PyData.eqv, D.plain] at ha hb ⊢
    exact eqvs_eq ds _ ha hb
  | .ref _, b, ha, hb => by simp [D.plain] at ha
theorem eqvs_eq : ∀ (as bs : List D), D.plains as = true → D.plains bs = true → (PyData.eqvAll (D.pys as) (D.pys bs) = true ↔ as = bs)
  | [], [], _, _ => by simp [D.pys, PyData.eqvAll]
  | [], _ :: _, _, _ => by simp [D.pys, PyData.eqvAll]
  | _ :: _, [], _, _ => by simp [D.pys, PyData.eqvAll]
  | a :: as, b :: bs, ha, hb => by
    simp only [D.plains, Bool.and_eq_true] at ha hb
    simp only [D.pys, PyData.eqvAll, Bool.and_eq_true, List.cons.injEq]
    rw [eqv_eq a b ha.1 hb.1, eqvs_eq as bs ha.2 hb.2]
end
theorem eqv_iff {a b : D} (ha : a.plain = true) (hb : b.plain = true) : eqv a b = true ↔ a = b := eqv_eq a b ha hb
theorem eqv_self {a : D} (ha : a.plain = true) : eqv a a = true := (eqv_iff ha ha).mpr rfl
theorem eqv_ne {a b : D} (ha : a.plain = true) (hb : b.plain = true) (h : a ≠ b) : eqv a b = false := by
  cases e : eqv a b with
  | false => rfl
  | true => exact absurd ((eqv_iff ha hb).mp e) h

theorem plains_all : ∀ {ds : List D}, (∀ d ∈ ds, d.plain = true) → D.plains ds = true
  | [], _ => by simp [D.plains]
  | d :: ds, h => by
    simp only [D.plains, Bool.and_eq_true]
    exact ⟨h d (by simp), plains_all fun x hx => h x (by simp [hx])⟩
theorem plains_ints (ns : List Int) : D.plains (ns.map D.int) = true := plains_all fun d hd => by
  obtain ⟨i, _, rfl⟩ := List.mem_map.mp hd
  simp [D.plain]
theorem plain_ints (ns : List Int) : (D.lst (ns.map D.int)).plain = true := by simp only [D.plain]; exact plains_ints ns
theorem ok_ints (n : Nat) (ns : List Int) : D.ok (n + 1) (.lst (ns.map D.int)) = true := by
  simp only [D.ok, List.all_eq_true]
  intro d hd
  obtain ⟨i, _, rfl⟩ := List.mem_map.mp hd
  cases n <;> rfl
theorem int_inj {ns ms : List Int} (h : ns.map D.int = ms.map D.int) : ns = ms := List.map_inj_right (fun xx xx h => by cases h; rfl) |>.mp h
theorem eqv_ints (ns ms : List Int) : eqv (.lst (ns.map D.int)) (.lst (ms.map D.int)) = decide (ns = ms) := by
  by_cases h : ns = ms
  · subst h; simp [eqv_self (plain_ints ns)]
  · rw [eqv_ne (plain_ints ns) (plain_ints ms) (fun e => h (int_inj (D.lst.inj e)))]
    simp [h]

theorem eqv_str (x y : Str) : eqv (.str x) (.str y) = (x == y) := rfl
theorem any_int (st : List Int) (b : Int) : ((st.map D.int).any fun y => eqv y (.int b)) = decide (b ∈ st) := by
  rw [Bool.eq_iff_iff]
  simp only [List.any_eq_true, List.mem_map, decide_eq_true_eq]
  constructor
  · rintro ⟨x, ⟨i, hi, rfl⟩, h⟩
    rw [eqv_int] at h
    simp only [decide_eq_true_eq] at h
    exact h ▸ hi
  · intro h
    exact ⟨.int b, ⟨b, h, rfl⟩, by rw [eqv_int]; simp⟩
noncomputable def M.most_b : List S := [.iff (.cmp .gt (.idx (.var 0) (.var 3)) (.idx (.var 0) (.var 2))) [.asg 2 (.var 3)] []]
noncomputable def M.most : List S := [.asg 2 (.idx (.var 1) (.cst (.int 0))), .for_ [3] (.seq (.var 1)) M.most_b, .ret (.var 2)]
noncomputable def M.least_b : List S := [.iff (.cmp .le (.idx (.var 0) (.var 3)) (.idx (.var 0) (.var 2))) [.asg 2 (.var 3)] []]
noncomputable def M.least : List S := [.asg 2 (.idx (.var 1) (.cst (.int 0))), .for_ [3] (.seq (.var 1)) M.least_b, .ret (.var 2)]
noncomputable def M.deed : List S :=
  [.iff (.cmp .lt (.var 2) (.cst (.int 1))) [.ret (.cst .none)] [],
    .asg 4 (.call "most_held" [(.var 0), (.var 1)]),
    .iff (.or_ (.cmp .le (.bi .len [(.var 1)]) (.var 2)) (.cmp .ge (.idx (.var 0) (.var 4)) (.var 3))) [.ret (.tupE [(.cst (.str "seated")), (.var 4)])] [],
    .ret (.tupE [(.cst (.str "out")), (.call "least_held" [(.var 0), (.var 1)])])]

noncomputable def hold (hs : List Int) (c : Int) : Int := hs.getD c.toNat 0
structure Stand (k : Nat) (st : List Int) : Prop where
  rise : st.Pairwise (· < ·)
  inn : ∀ c ∈ st, 0 ≤ c ∧ c < k
  ne : st ≠ []
noncomputable def IsMost (hs st : List Int) (b : Int) : Prop := b ∈ st ∧ ∀ c ∈ st, hold hs c < hold hs b ∨ (hold hs c = hold hs b ∧ b ≤ c)
noncomputable def IsLeast (hs st : List Int) (b : Int) : Prop := b ∈ st ∧ ∀ c ∈ st, hold hs b < hold hs c ∨ (hold hs c = hold hs b ∧ c ≤ b)

theorem rise_le {st : List Int} (h : st.Pairwise (· < ·)) {i j : Nat} (hi : i < st.length) (hj : j < st.length) (hij : i ≤ j) : st[i] ≤ st[j] := by
  rcases Nat.lt_or_ge i j with h1 | h1
  · exact Int.le_of_lt (List.pairwise_iff_getElem.mp h i j hi hj h1)
  · have : i = j := by first | decide | omega
    subst this; exact Int.le_refl _

section
variable {X : Cx} {n : Nat} {σ : Sg}

set_option tactic.hygienic true in
theorem most_spec {hs st : List Int} {Q : D → Sg → Prop} (hl : hs.length ≤ 1000) (hst : Stand hs.length st) (q : ∀ b, IsMost hs st b → Q (.int b) σ) :
    mExecs X n M.most [.val (.lst (hs.map D.int)), .val (.lst (st.map D.int)), .unb, .unb] σ (fun fl xx σ' => (∀ b, σ b ≠ none → σ' b ≠ none) ∧ Q (flD fl) σ') := by
  have h0 : 0 < st.length := List.length_pos_iff.mpr hst.ne
  simp only [M.most]
  rw [ms_cons]
  simp only [E.cst, E.var, E.idx, S.asg, q_val, i_ints, flD, g_z, g_s, List.set_cons_zero, List.set_cons_succ]
  refine ⟨by first | decide | omega, by first | decide | omega, by first | decide | omega, ?_⟩
  rw [ms_cons]
  simp only [E.var, It.seq, S.for_, q_val, q_one, g_z, g_s, List.length_cons, List.length_nil, Nat.zero_add]
  refine for_inv (fun j ρ σ' => σ' = σ ∧ ∃ i a, ∃ hi : i < st.length, i ≤ j ∧ (∀ c ∈ st.take j, hold hs c < hold hs st[i] ∨ (hold hs c = hold hs st[i] ∧ st[i] ≤ c)) ∧ ρ = [.val (.lst (hs.map D.int)), .val (.lst (st.map D.int)), .val (.int st[i]), a]) ?_ ?_ ?_
  · refine ⟨rfl, 0, .unb, h0, by first | decide | omega, by simp, ?_⟩
    have : st.getD (Int.toNat 0) 0 = st[0] := by simp [List.getD, h0]
    rw [this]
  · rintro j hj ρ σ' ⟨rfl, i, a, hi, hij, hm, rfl⟩
    simp only [List.length_map] at hj
    have c1 := hst.inn st[j] (List.getElem_mem hj)
    have c2 := hst.inn st[i] (List.getElem_mem hi)
    simp only [List.getElem_map, M.most_b]
    rw [ms_cons]
    simp only [E.var, E.cmp, E.idx, S.iff, q_val, c_gt, cond_bool, i_ints, setAll, g_z, g_s, List.set_cons_zero, List.set_cons_succ, true_and, decide_eq_true_eq, ms_nil]
    refine ⟨by first | decide | with_reducible exact And.left ‹_› | omega, by first | decide | with_reducible exact oos ‹_› ‹_› | omega, by first | decide | with_reducible exact And.right ‹_› | omega, by first | decide | with_reducible exact And.left ‹_› | omega, by first | decide | with_reducible exact oos ‹_› ‹_› | omega, by first | decide | with_reducible exact And.right ‹_› | omega, ?_⟩
    have ht : st.take (j + 1) = st.take j ++ [st[j]] := List.take_succ_eq_append_getElem hj
    split
    · rename_i hg
      rw [ms_cons]
      simp only [E.var, S.asg, q_val, g_z, g_s, List.set_cons_zero, List.set_cons_succ, true_and, ms_nil]
      refine ⟨j, _, hj, by first | decide | with_reducible exact Nat.le_succ _ | omega, fun c hc => ?_, rfl⟩
      rw [ht] at hc
      rcases List.mem_append.mp hc with hc | hc
      · left
        have hg' : hold hs st[i] < hold hs st[j] := hg
        rcases hm c hc with h | h <;> omega
      · rw [List.mem_singleton.mp hc]; right; omega
    · rename_i hg
      refine ⟨i, _, hi, by first | decide | omega, fun c hc => ?_, rfl⟩
      rw [ht] at hc
      rcases List.mem_append.mp hc with hc | hc
      · exact hm c hc
      · rw [List.mem_singleton.mp hc]
        have hg' : ¬ hold hs st[i] < hold hs st[j] := hg
        have := rise_le hst.rise hi hj hij
        omega
  · rintro ρ σ' ⟨rfl, i, a, hi, hij, hm, rfl⟩
    rw [ms_cons]
    simp only [E.var, S.ret, q_val, keepS, g_z, g_s, true_and, ms_nil]
    simp only [List.length_map, List.take_length] at hm
    exact q _ ⟨List.getElem_mem hi, hm⟩

set_option tactic.hygienic true in
theorem least_spec {hs st : List Int} {Q : D → Sg → Prop} (hl : hs.length ≤ 1000) (hst : Stand hs.length st) (q : ∀ b, IsLeast hs st b → Q (.int b) σ) :
    mExecs X n M.least [.val (.lst (hs.map D.int)), .val (.lst (st.map D.int)), .unb, .unb] σ (fun fl xx σ' => (∀ b, σ b ≠ none → σ' b ≠ none) ∧ Q (flD fl) σ') := by
  have h0 : 0 < st.length := List.length_pos_iff.mpr hst.ne
  simp only [M.least]
  rw [ms_cons]
  simp only [E.cst, E.var, E.idx, S.asg, q_val, i_ints, flD, g_z, g_s, List.set_cons_zero, List.set_cons_succ]
  refine ⟨by first | decide | omega, by first | decide | omega, by first | decide | omega, ?_⟩
  rw [ms_cons]
  simp only [E.var, It.seq, S.for_, q_val, q_one, g_z, g_s, List.length_cons, List.length_nil, Nat.zero_add]
  refine for_inv (fun j ρ σ' => σ' = σ ∧ ∃ i a, ∃ hi : i < st.length, i ≤ j ∧ (∀ c ∈ st.take j, hold hs st[i] < hold hs c ∨ (hold hs c = hold hs st[i] ∧ c ≤ st[i])) ∧ ρ = [.val (.lst (hs.map D.int)), .val (.lst (st.map D.int)), .val (.int st[i]), a]) ?_ ?_ ?_
  · refine ⟨rfl, 0, .unb, h0, by first | decide | omega, by simp, ?_⟩
    have : st.getD (Int.toNat 0) 0 = st[0] := by simp [List.getD, h0]
    rw [this]
  · rintro j hj ρ σ' ⟨rfl, i, a, hi, hij, hm, rfl⟩
    simp only [List.length_map] at hj
    have c1 := hst.inn st[j] (List.getElem_mem hj)
    have c2 := hst.inn st[i] (List.getElem_mem hi)
    simp only [List.getElem_map, M.least_b]
    rw [ms_cons]
    simp only [E.var, E.cmp, E.idx, S.iff, q_val, c_le, cond_bool, i_ints, setAll, g_z, g_s, List.set_cons_zero, List.set_cons_succ, true_and, decide_eq_true_eq, ms_nil]
    refine ⟨by first | decide | with_reducible exact And.left ‹_› | omega, by first | decide | with_reducible exact oos ‹_› ‹_› | omega, by first | decide | with_reducible exact And.right ‹_› | omega, by first | decide | with_reducible exact And.left ‹_› | omega, by first | decide | with_reducible exact oos ‹_› ‹_› | omega, by first | decide | with_reducible exact And.right ‹_› | omega, ?_⟩
    have ht : st.take (j + 1) = st.take j ++ [st[j]] := List.take_succ_eq_append_getElem hj
    split
    · rename_i hg
      have hg' : hold hs st[j] ≤ hold hs st[i] := hg
      rw [ms_cons]
      simp only [E.var, S.asg, q_val, g_z, g_s, List.set_cons_zero, List.set_cons_succ, true_and, ms_nil]
      refine ⟨j, _, hj, by first | decide | with_reducible exact Nat.le_succ _ | omega, fun c hc => ?_, rfl⟩
      rw [ht] at hc
      rcases List.mem_append.mp hc with hc | hc
      · obtain ⟨m, hm1, hm2⟩ := List.getElem_of_mem hc
        have hlt : m < j := by simp at hm1; omega
        have : c ≤ st[j] := by
          rw [← hm2, List.getElem_take]
          exact rise_le hst.rise (by first | decide | with_reducible exact Nat.lt_trans ‹_› ‹_› | omega) hj (by first | decide | with_reducible exact Nat.le_of_lt ‹_› | omega)
        rcases hm c hc with h | h <;> omega
      · rw [List.mem_singleton.mp hc]; right; omega
    · rename_i hg
      have hg' : ¬ hold hs st[j] ≤ hold hs st[i] := hg
      refine ⟨i, _, hi, by first | decide | omega, fun c hc => ?_, rfl⟩
      rw [ht] at hc
      rcases List.mem_append.mp hc with hc | hc
      · exact hm c hc
      · rw [List.mem_singleton.mp hc]
        left; omega
  · rintro ρ σ' ⟨rfl, i, a, hi, hij, hm, rfl⟩
    rw [ms_cons]
    simp only [E.var, S.ret, q_val, keepS, g_z, g_s, true_and, ms_nil]
    simp only [List.length_map, List.take_length] at hm
    exact q _ ⟨List.getElem_mem hi, hm⟩

noncomputable def HasMost (X : Cx) : Prop := ∀ {n : Nat} {σ : Sg} {hs st : List Int} {Q : D → Sg → Prop}, hs.length ≤ 1000 → Stand hs.length st → (∀ b, IsMost hs st b → Q (.int b) σ) → CallSem X (n + 1) "most_held" [.lst (hs.map D.int), .lst (st.map D.int)] σ Q
noncomputable def HasLeast (X : Cx) : Prop := ∀ {n : Nat} {σ : Sg} {hs st : List Int} {Q : D → Sg → Prop}, hs.length ≤ 1000 → Stand hs.length st → (∀ b, IsLeast hs st b → Q (.int b) σ) → CallSem X (n + 1) "least_held" [.lst (hs.map D.int), .lst (st.map D.int)] σ Q

noncomputable def IsDeed (hs st : List Int) (seats many : Int) (d : D) : Prop :=
  if seats < 1 then d = .none
  else ∃ b, IsMost hs st b ∧ if (st.length : Int) ≤ seats ∨ many ≤ hold hs b then d = .tup [.str "seated", .int b] else ∃ w, IsLeast hs st w ∧ d = .tup [.str "out", .int w]

set_option tactic.hygienic true in
theorem deed_spec (hM : HasMost X) (hL : HasLeast X) {hs st : List Int} {seats many : Int} {Q : D → Sg → Prop} (hl : hs.length ≤ 1000) (hsl : st.length ≤ 1000) (hst : seats < 1 ∨ Stand hs.length st) (q : ∀ d, IsDeed hs st seats many d → Q d σ) :
    mExecs X (n + 1) M.deed [.val (.lst (hs.map D.int)), .val (.lst (st.map D.int)), .val (.int seats), .val (.int many), .unb] σ (fun fl xx σ' => (∀ b, σ b ≠ none → σ' b ≠ none) ∧ Q (flD fl) σ') := by
  simp only [M.deed]
  rw [ms_cons]
  simp only [E.cst, E.var, E.cmp, S.iff, q_val, c_lt, cond_bool, flD, g_z, g_s, decide_eq_true_eq, ms_nil]
  split
  · rename_i h
    rw [ms_cons]
    simp only [E.cst, S.ret, keepS, true_and, ms_nil]
    exact q _ (by simp [IsDeed, h])
  · rename_i h
    have hst := hst.resolve_left h
    rw [ms_cons]
    simp only [ev_nil, ev_cons, E.var, E.call, S.asg, q_val, g_z, g_s, List.set_cons_zero, List.set_cons_succ]
    refine hM hl hst fun b hb => ?_
    have hbin := hst.inn b hb.1
    rw [ms_cons]
    simp only [ev_nil, ev_cons, E.var, E.cmp, E.or_, E.idx, E.bi, S.iff, q_val, c_le, c_ge, cond_bool, i_ints, f_len, g_z, g_s, List.length_map, decide_eq_true_eq, ms_nil, if_true]
    refine ⟨by first | decide | with_reducible exact oo3 ‹_› | omega, ?_⟩
    split
    · rename_i h1
      rw [ms_cons]
      simp only [ev_nil, ev_cons, E.cst, E.var, E.tupE, S.ret, q_val, keepS, g_z, g_s, List.length_cons, List.length_nil, Nat.zero_add, true_and, ms_nil]
      refine ⟨by first | decide | omega, q _ ?_⟩
      simp only [IsDeed, if_neg h]
      exact ⟨b, hb, by rw [if_pos (.inl h1)]⟩
    · rename_i h1
      refine ⟨by first | decide | with_reducible exact And.left ‹_› | omega, by first | decide | with_reducible exact oos ‹_› ‹_› | omega, by first | decide | with_reducible exact And.right ‹_› | omega, ?_⟩
      split
      · rename_i h2
        rw [ms_cons]
        simp only [ev_nil, ev_cons, E.cst, E.var, E.tupE, S.ret, q_val, keepS, g_z, g_s, List.length_cons, List.length_nil, Nat.zero_add, true_and, ms_nil]
        refine ⟨by first | decide | omega, q _ ?_⟩
        simp only [IsDeed, if_neg h]
        exact ⟨b, hb, by rw [if_pos (.inr h2)]⟩
      · rename_i h2
        rw [ms_cons]
        simp only [ev_nil, ev_cons, E.cst, E.var, E.tupE, E.call, S.ret, q_val, g_z, g_s, List.length_cons, List.length_nil, Nat.zero_add, ms_nil]
        refine hL hl hst fun w hw => ⟨by first | decide | omega, keepS.mpr trivial, q _ ?_⟩
        simp only [IsDeed, if_neg h]
        exact ⟨b, hb, by rw [if_neg (fun z => z.elim h1 h2)]; exact ⟨w, hw, rfl⟩⟩
end
theorem erase_map (l : List Int) (i : Nat) : (l.map D.int).eraseIdx i = (l.eraseIdx i).map D.int := by
  induction l generalizing i with
  | nil => rfl
  | cons a l ih =>
    cases i with
    | zero => rfl
    | succ i => simp [ih]
theorem erase_perm : ∀ (l : List Int) (i : Nat) (h : i < l.length), (l[i] :: l.eraseIdx i).Perm l
  | a :: l, 0, _ => .refl _
  | a :: l, i + 1, h => by
    have := erase_perm l i (by simpa using h)
    exact (List.Perm.swap _ _ _).trans (this.cons a)

noncomputable def dB (B : List (Int × List Int)) : List D := B.map fun b => .tup [.int b.1, .lst (b.2.map D.int)]
structure RowOk (k : Nat) (r : List Int) : Prop where
  nd : r.Nodup
  inn : ∀ c ∈ r, 0 ≤ c ∧ c < k
structure Bal (k : Nat) (B : List (Int × List Int)) : Prop where
  len : B.length ≤ 40
  wt : ∀ b ∈ B, 1 ≤ b.1 ∧ b.1 ≤ 1000000000
  row : ∀ b ∈ B, RowOk k b.2

theorem RowOk.len {k : Nat} {r : List Int} (h : RowOk k r) : r.length ≤ k := by
  have key : ∀ (k : Nat) (r : List Int), r.Nodup → (∀ c ∈ r, 0 ≤ c ∧ c < (k : Int)) → r.length ≤ k := by
    intro k
    induction k with
    | zero =>
      intro r _ hin
      cases r with
      | nil => simp
      | cons c r => have := hin c (by simp); omega
    | succ k ih =>
      intro r nd hin
      have h1 := ih (r.erase (k : Int)) (nd.erase _) fun c hc => by
        have hm := List.mem_of_mem_erase hc
        have := hin c hm
        have hne : c ≠ k := fun e => by
          subst e
          exact absurd hc (by rw [List.Nodup.mem_erase_iff nd]; simp)
        omega
      have h2 : r.length ≤ (r.erase (k : Int)).length + 1 := by
        rw [List.length_erase]
        split <;> omega
      omega
  exact key k r h.nd h.inn

noncomputable def M.row_b : List S :=
  [.asg 3 (.bin .mod (.bin .add (.bin .mul (.var 3) (.cst (.int 48271))) (.cst (.int 11))) (.cst (.int 2147483647))),
    .iff (.borrow [2] (.cmp .ne (.var 2) (.lst (.disp []))))
      [.appPop 4 2 (.borrow [2] (.bin .mod (.bin .fdiv (.var 3) (.cst (.int 7))) (.bi .len [(.var 2)])))]
      []]
noncomputable def M.row : List S :=
  [.asgM 2 (.ofSeq (.range (.var 1))),
    .asg 3 (.bin .add (.cst (.int 1)) (.bin .mod (.var 0) (.cst (.int 2147483646)))),
    .asgM 4 (.disp []),
    .for_ [5] (.range (.bin .mod (.var 3) (.bin .add (.var 1) (.cst (.int 2))))) M.row_b,
    .freeze 4,
    .ret (.var 4)]
noncomputable def M.weight : List S :=
  [.ret (.bin .add (.cst (.int 1)) (.bin .mod (.var 0) (.idx (.lst (.disp [(.cst (.int 1)), (.cst (.int 4)), (.cst (.int 100)), (.cst (.int 1000000000))])) (.var 1))))]
noncomputable def M.candidates : List S :=
  [.iff (.cmp .eq (.bin .mod (.bin .fdiv (.call "_law_cell" [(.var 0), (.cst (.int 0))]) (.cst (.int 6))) (.cst (.int 8))) (.cst (.int 1)))
      [.ret (.bin .add (.cst (.int 1)) (.bin .mod (.bin .fdiv (.call "_law_cell" [(.var 0), (.cst (.int 0))]) (.cst (.int 48))) (.cst (.int 12))))]
      [],
    .ret (.bin .add (.cst (.int 1)) (.bin .mod (.call "_law_cell" [(.var 0), (.cst (.int 0))]) (.cst (.int 6))))]

theorem i_four {a b c d k : Int} {Q : D → Prop} (h0 : 0 ≤ k) (h1 : k < 4) (q : ∀ m, (m = a ∨ m = b ∨ m = c ∨ m = d) → Q (.int m)) : idxT (.lst [.int a, .int b, .int c, .int d]) (.int k) Q := by
  rw [i_lst]
  refine ⟨h0, by first | decide | omega, ?_⟩
  have : k = 0 ∨ k = 1 ∨ k = 2 ∨ k = 3 := by first | decide | omega
  rcases this with rfl | rfl | rfl | rfl
  · exact ⟨_, rfl, q _ (.inl rfl)⟩
  · exact ⟨_, rfl, q _ (.inr (.inl rfl))⟩
  · exact ⟨_, rfl, q _ (.inr (.inr (.inl rfl)))⟩
  · exact ⟨_, rfl, q _ (.inr (.inr (.inr rfl)))⟩

section
variable {X : Cx} {n : Nat} {σ : Sg}

theorem weight_spec {c k : Int} {Q : D → Sg → Prop} (h0 : 0 ≤ k) (h1 : k < 4) (q : ∀ w, 1 ≤ w → w ≤ 1000000000 → Q (.int w) σ) :
    mExecs X n M.weight [.val (.int c), .val (.int k)] σ (fun fl xx σ' => (∀ b, σ b ≠ none → σ' b ≠ none) ∧ Q (flD fl) σ') := by
  simp only [M.weight]
  rw [ms_cons]
  simp only [ev_nil, ev_cons, E.cst, E.var, E.bin, E.lst, E.idx, L.disp, S.ret, q_val, keepS, flD, g_z, g_s, List.length_cons, List.length_nil, Nat.zero_add, true_and, ms_nil]
  refine ⟨by first | decide | omega, i_four h0 h1 fun m hm => ?_⟩
  have hm0 : 0 < m ∧ m ≤ 1000000000 := by rcases hm with rfl | rfl | rfl | rfl <;> omega
  simp only [b_add, b_mod]
  have a0 := fmod_nn (a := c) hm0.1
  have a1 := fmod_ltt (a := c) hm0.1
  exact ⟨by first | decide | omega, q _ (by first | decide | omega) (by first | decide | omega)⟩

set_option tactic.hygienic true in
theorem row_spec {c : Int} {k : Nat} {Q : D → Sg → Prop} (hk : k ≤ 100) (q : ∀ r, RowOk k r → Q (.lst (r.map D.int)) σ) :
    mExecs X n M.row [.val (.int c), .val (.int k), .unb, .unb, .unb, .unb] σ (fun fl xx σ' => (∀ b, σ b ≠ none → σ' b ≠ none) ∧ Q (flD fl) σ') := by
  simp only [M.row]
  rw [ms_cons]
  simp only [E.var, L.ofSeq, It.range, S.asgM, q_val, q_int, flD, g_z, g_s, List.set_cons_zero, List.set_cons_succ, List.length_map, true_and]
  refine ⟨by first | decide | with_reducible exact oo2 _ | omega, by first | decide | with_reducible exact oo5 ‹_› | omega, by simp; (first | with_reducible exact oo3 ‹_› | omega), ?_⟩
  have e : List.map (fun r => r.headD D.none) (List.map (fun (j : Nat) => [D.int (j : Int)]) (List.range (k : Int).toNat)) = ((List.range k).map fun (j : Nat) => (j : Int)).map D.int := by
    rw [List.map_map, List.map_map, Int.toNat_natCast]
    rfl
  rw [e]
  rw [ms_cons]
  simp only [E.cst, E.var, E.bin, S.asg, q_val, b_add, b_mod, g_z, List.set_cons_zero, List.set_cons_succ]
  refine ⟨by first | decide | omega, ?_⟩
  rw [ms_cons]
  simp only [ev_nil, L.disp, S.asgM, List.set_cons_zero, List.set_cons_succ, List.length_nil]
  refine ⟨by first | decide | omega, ?_⟩
  have s0 := fmod_nn (a := c) (b := 2147483646) (by first | decide | omega)
  have s1 := fmod_ltt (a := c) (b := 2147483646) (by first | decide | omega)
  rw [ms_cons]
  simp only [E.cst, E.var, E.bin, It.range, S.for_, q_val, q_int, b_add, b_mod, g_z, g_s, List.length_cons, List.length_nil, Nat.zero_add, true_and]
  have t0 := fmod_nn (a := 1 + c.fmod 2147483646) (b := (k : Int) + 2) (by first | decide | omega)
  have t1 := fmod_ltt (a := 1 + c.fmod 2147483646) (b := (k : Int) + 2) (by first | decide | omega)
  refine ⟨by first | decide | omega, by first | decide | omega, by first | decide | omega, ?_⟩
  have nd0 : ((List.range k).map fun (j : Nat) => (j : Int)).Nodup := by
    rw [List.nodup_iff_pairwise_ne, List.pairwise_map]
    exact (List.nodup_iff_pairwise_ne.mp List.nodup_range).imp fun h e => h (by first | decide | omega)
  have in0 : ∀ x ∈ ((List.range k).map fun (j : Nat) => (j : Int)), 0 ≤ x ∧ x < (k : Int) := fun x hx => by
    obtain ⟨j, hj, rfl⟩ := List.mem_map.mp hx
    have := List.mem_range.mp hj
    omega
  refine for_inv (fun j ρ σ' => σ' = σ ∧ ∃ (s : Int) (a : MV) (row left : List Int), ρ = [.val (.int c), .val (.int k), .mt (left.map D.int), .val (.int s), .mt (row.map D.int), a] ∧ 0 ≤ s ∧ s < 2147483648 ∧ RowOk k (row ++ left)) ?_ ?_ ?_
  · exact ⟨rfl, _, .unb, [], _, rfl, by first | decide | omega, by first | decide | omega, by simpa using nd0, by simpa using in0⟩
  · rintro j hj ρ σ' ⟨rfl, s, a, row, left, rfl, hs0, hs1, hrow⟩
    have hlen := hrow.len
    simp only [List.length_append] at hlen
    simp only [List.getElem_map, M.row_b]
    rw [ms_cons]
    simp only [E.cst, E.var, E.bin, S.asg, q_val, b_add, b_mul, b_mod, setAll, g_z, g_s, List.set_cons_zero, List.set_cons_succ]
    have u0 := fmod_nn (a := s * 48271 + 11) (b := 2147483647) (by first | decide | omega)
    have u1 := fmod_ltt (a := s * 48271 + 11) (b := 2147483647) (by first | decide | omega)
    refine ⟨.inr ⟨by first | decide | omega, by first | decide | omega⟩, by first | decide | omega, ?_⟩
    rw [ms_cons]
    simp only [ev_nil, E.var, E.cmp, E.lst, E.borrow, L.disp, S.iff, q_val, cond_bool, frzAll, at_b, g_z, g_s, List.set_cons_zero, List.set_cons_succ, List.length_nil, true_and, ms_nil]
    have e2 := eqv_ints left []
    simp only [List.map_nil] at e2
    simp only [c_nex, e2]
    refine ⟨by first | decide | omega, ok_ints 7 left, rfl, ?_⟩
    simp only [Bool.not_eq_true', decide_eq_false_iff_not]
    split
    · rename_i hne
      have hpos : 0 < left.length := List.length_pos_iff.mpr hne
      rw [ms_cons]
      simp only [ev_nil, ev_cons, E.cst, E.var, E.bin, E.bi, E.borrow, S.appPop, q_val, q_mt, q_int, b_div, b_mod, f_len, frzAll, at_i, g_z, g_s, List.set_cons_zero, List.set_cons_succ, List.length_map, true_and, ms_nil]
      refine ⟨by first | decide | omega, by first | decide | omega, by first | decide | omega, by first | decide | omega, ⟨by first | decide | omega, by first | decide | omega⟩, by first | decide | omega, by first | decide | omega, ?_⟩
      generalize hi : ((s * 48271 + 11).fmod 2147483647).fdiv 7 = v
      have v0 := fmod_nn (a := v) (b := (left.length : Int)) (by first | decide | omega)
      have v1 := fmod_ltt (a := v) (b := (left.length : Int)) (by first | decide | omega)
      have hlt : (v.fmod left.length).toNat < left.length := by first | decide | omega
      refine ⟨.int (left[(v.fmod left.length).toNat]), v0, by simp [hlt], ?_⟩
      have e3 : (left.map D.int).eraseIdx (v.fmod left.length).toNat = (left.eraseIdx (v.fmod left.length).toNat).map D.int := erase_map _ _
      have e4 : row.map D.int ++ [.int left[(v.fmod left.length).toNat]] = (row ++ [left[(v.fmod left.length).toNat]]).map D.int := by simp
      rw [e3, e4]
      refine ⟨_, _, row ++ [left[(v.fmod left.length).toNat]], left.eraseIdx (v.fmod left.length).toNat, rfl, u0, by first | decide | omega, ?_⟩
      · have hp : (row ++ [left[(v.fmod left.length).toNat]] ++ left.eraseIdx (v.fmod left.length).toNat).Perm (row ++ left) := by
          rw [List.append_assoc]
          exact List.Perm.append_left _ (erase_perm _ _ hlt)
        exact ⟨hp.nodup_iff.mpr hrow.nd, fun x hx => hrow.inn x (hp.mem_iff.mp hx)⟩
    · exact ⟨_, _, row, left, rfl, u0, by first | decide | omega, hrow⟩
  · rintro ρ σ' ⟨rfl, s, a, row, left, rfl, hs0, hs1, hrow⟩
    rw [ms_cons]
    simp only [S.freeze, q_mt, g_z, g_s, List.set_cons_zero, List.set_cons_succ]
    rw [ms_cons]
    simp only [E.var, S.ret, q_val, keepS, g_z, g_s, true_and, ms_nil]
    exact q row ⟨(List.nodup_append.mp hrow.nd).1, fun x hx => hrow.inn x (by simp [hx])⟩
end
noncomputable def HasWeight (X : Cx) : Prop := ∀ {n : Nat} {σ : Sg} {c k : Int} {Q : D → Sg → Prop}, 0 ≤ k → k < 4 → (∀ w, 1 ≤ w → w ≤ 1000000000 → Q (.int w) σ) → CallSem X (n + 1) "_law_weight" [.int c, .int k] σ Q
noncomputable def HasRow (X : Cx) : Prop := ∀ {n : Nat} {σ : Sg} {c : Int} {k : Nat} {Q : D → Sg → Prop}, k ≤ 100 → (∀ r, RowOk k r → Q (.lst (r.map D.int)) σ) → CallSem X (n + 1) "_law_row" [.int c, .int k] σ Q

noncomputable def M.bal_p : E := (.cmp .ne (.lst (.disp [(.var 8)])) (.lst (.upto (.idx (.idx (.var 4) (.cst (.int 0))) (.cst (.int 1))) (.cst (.int 1)))))
noncomputable def M.bal_e : E := (.var 8)
noncomputable def M.bal_b : List S :=
  [.asg 6 (.call "_law_weight" [(.call "_law_cell" [(.var 0), (.bin .add (.cst (.int 6)) (.bin .mul (.cst (.int 2)) (.var 5)))]), (.var 3)]),
    .asg 7 (.call "_law_row" [(.call "_law_cell" [(.var 0), (.bin .add (.cst (.int 7)) (.bin .mul (.cst (.int 2)) (.var 5)))]), (.var 1)]),
    .iff (.borrow [4] (.and_ (.cmp .eq (.bin .mod (.call "_law_cell" [(.var 0), (.cst (.int 3))]) (.cst (.int 5))) (.cst (.int 1))) (.and_ (.cmp .gt (.bi .len [(.var 4)]) (.cst (.int 0))) (.cmp .gt (.bi .len [(.var 7)]) (.cst (.int 1))))))
      [.asgM 7 (.borrow [4] (.cat (.lst (.upto (.idx (.idx (.var 4) (.cst (.int 0))) (.cst (.int 1))) (.cst (.int 1)))) (.lst (.comp M.bal_e [8] (.seq (.var 7)) (some M.bal_p))))),
      .freeze 7]
      [],
    .app 4 (.tupE [(.var 6), (.var 7)])]
noncomputable def M.ballots : List S :=
  [.asg 2 (.bin .mod (.call "_law_cell" [(.var 0), (.cst (.int 1))]) (.cst (.int 9))),
    .iff (.cmp .eq (.bin .mod (.bin .fdiv (.call "_law_cell" [(.var 0), (.cst (.int 1))]) (.cst (.int 9))) (.cst (.int 8))) (.cst (.int 1)))
      [.asg 2 (.bin .mod (.bin .fdiv (.call "_law_cell" [(.var 0), (.cst (.int 1))]) (.cst (.int 72))) (.cst (.int 41)))]
      [],
    .asg 3 (.bin .mod (.call "_law_cell" [(.var 0), (.cst (.int 2))]) (.cst (.int 4))),
    .asgM 4 (.disp []),
    .for_ [5] (.range (.var 2)) M.bal_b,
    .freeze 4,
    .ret (.var 4)]
section
variable {X : Cx} {n : Nat} {σ : Sg}

theorem mixed {k : Nat} {r0 r : List Int} (h0 : RowOk k r0) (h : RowOk k r) : RowOk k (r0.take 1 ++ r.filter fun c => decide (¬ [c] = r0.take 1)) := by
  cases r0 with
  | nil =>
    refine ⟨?_, fun c hc => ?_⟩
    · simp only [List.take_nil, List.nil_append]
      exact h.nd.filter _
    · simp only [List.take_nil, List.nil_append, List.mem_filter] at hc
      exact h.inn c hc.1
  | cons a r0 =>
    refine ⟨?_, fun c hc => ?_⟩
    · simp only [List.take_succ_cons, List.take_zero, List.singleton_append, List.nodup_cons, List.mem_filter]
      exact ⟨by simp, h.nd.filter _⟩
    · simp only [List.take_succ_cons, List.take_zero, List.singleton_append, List.mem_cons, List.mem_filter] at hc
      rcases hc with rfl | hc
      · exact h0.inn _ (by simp)
      · exact h.inn c hc.1

set_option tactic.hygienic true in
theorem bal_turn (hC : HasCell X) (hW : HasWeight X) (hR : HasRow X) {ns : List Int} {k : Nat} {many kind : Int} {B : List (Int × List Int)} {j : Nat} {a6 a7 : MV} {Q : Fl → List MV → Sg → Prop} (hl : ns.length ≤ 63) (hk : k ≤ 100) (hj : j ≤ 100) (h0 : 0 ≤ kind) (h1 : kind < 4)
    (hB : B.length ≤ 100) (hrow : ∀ b ∈ B, RowOk k b.2) (q : ∀ w r, 1 ≤ w → w ≤ 1000000000 → RowOk k r → Q .next [.val (.lst (ns.map D.int)), .val (.int k), .val (.int many), .val (.int kind), .mt (dB (B ++ [(w, r)])), .val (.int j), .val (.int w), .val (.lst (r.map D.int)), .unb] σ) :
    mExecs X (n + 1) M.bal_b [.val (.lst (ns.map D.int)), .val (.int k), .val (.int many), .val (.int kind), .mt (dB B), .val (.int j), a6, a7, .unb] σ Q := by
  simp only [M.bal_b]
  rw [ms_cons]
  simp only [ev_nil, ev_cons, E.cst, E.var, E.bin, E.call, S.asg, q_val, b_add, b_mul, g_z, g_s, List.set_cons_zero, List.set_cons_succ]
  refine ⟨.inl ⟨by first | decide | omega, by first | decide | omega⟩, hC hl (by first | decide | omega) (by first | decide | omega) (hW h0 h1 fun w hw0 hw1 => ?_)⟩
  rw [ms_cons]
  simp only [ev_nil, ev_cons, E.cst, E.var, E.bin, E.call, S.asg, q_val, b_add, b_mul, g_z, g_s, List.set_cons_zero, List.set_cons_succ]
  refine ⟨.inl ⟨by first | decide | omega, by first | decide | omega⟩, hC hl (by first | decide | omega) (by first | decide | omega) (hR hk fun r hr => ?_)⟩
  have hrl := hr.len
  have last : ∀ r' : List Int, RowOk k r' → mExecs X (n + 1) [.app 4 (.tupE [(.var 6), (.var 7)])] [.val (.lst (ns.map D.int)), .val (.int k), .val (.int many), .val (.int kind), .mt (dB B), .val (.int j), .val (.int w), .val (.lst (r'.map D.int)), .unb] σ Q := by
    intro r' hr'
    rw [ms_cons]
    simp only [ev_nil, ev_cons, E.var, E.tupE, S.app, q_val, q_mt, g_z, g_s, List.set_cons_zero, List.set_cons_succ, List.length_cons, List.length_nil, Nat.zero_add, ms_nil]
    refine ⟨by simp [dB]; (first | with_reducible exact oo3 ‹_› | omega), by first | decide | omega, ?_⟩
    have e : dB B ++ [D.tup [.int w, .lst (r'.map D.int)]] = dB (B ++ [(w, r')]) := by simp [dB]
    rw [e]
    exact q w r' hw0 hw1 hr'
  rw [ms_cons]
  simp only [ev_nil, ev_cons, E.cst, E.var, E.bin, E.cmp, E.and_, E.call, E.bi, E.borrow, S.iff, q_val, c_gt, cond_bool, f_len, frzAll, at_b, g_z, g_s, List.set_cons_zero, List.set_cons_succ, List.length_map, decide_eq_true_eq, ms_nil, if_false, Bool.false_eq_true]
  refine hC hl (by first | decide | omega) (by first | decide | omega) ?_
  simp only [b_mod, c_eq, decide_eq_true_eq]
  refine ⟨by first | decide | omega, ?_⟩
  have hdl : (dB B).length = B.length := by simp [dB]
  split
  · refine ⟨by first | decide | with_reducible exact oo9 ‹_› ‹_› | omega, ?_⟩
    rw [hdl]
    split
    · rename_i hpos
      refine ⟨by first | decide | with_reducible exact ooc ‹_› ‹_› | omega, ?_⟩
      split
      · cases B with
        | nil => simp at hpos
        | cons b0 B =>
          have hr0 := hrow b0 (by simp)
          rw [ms_cons]
          simp only [E.cst, E.var, E.lst, E.idx, L.upto, L.comp, L.cat, L.borrow, It.seq, S.asgM, q_val, q_int, q_lst, q_one, frzAll, g_z, g_s, List.set_cons_zero, List.set_cons_succ, List.length_cons, List.length_nil, Nat.zero_add, List.length_map]
          have e0 : dB (b0 :: B) = .tup [.int b0.1, .lst (b0.2.map D.int)] :: dB B := by simp [dB]
          rw [e0]
          simp only [q_lst, i_0, t_1, List.length_map]
          have hr0l := hr0.len
          have hmix := mixed hr0 hr
          refine ⟨by first | decide | omega, by first | decide | with_reducible exact ooc ‹_› ‹_› | omega, by first | decide | with_reducible exact ooc ‹_› ‹_› | omega, ?_⟩
          refine comp_map (fun x => match x with | [.int c] => decide (¬ [c] = b0.2.take 1) | _ => false) (fun x => match x with | [d] => d | _ => .none) (fun x hx K hK => ?_) (fun x hx xx K hK => ?_) ?_
          · simp only [List.map_map, List.mem_map] at hx
            obtain ⟨c, hc, rfl⟩ := hx
            simp only [M.bal_p, Function.comp] at hK ⊢
            simp only [ev_nil, ev_cons, cd_some, E.cst, E.var, E.cmp, E.lst, E.idx, L.disp, L.upto, q_val, q_int, q_lst, i_0, t_1, setAll, g_z, g_s, List.set_cons_zero, List.set_cons_succ, List.length_cons, List.length_nil, Nat.zero_add, List.length_map]
            have e1 : List.take (Int.toNat 1) (b0.2.map D.int) = (b0.2.take 1).map D.int := by rw [← List.map_take]; rfl
            have e2 := eqv_ints [c] (b0.2.take 1)
            simp only [List.map_cons, List.map_nil] at e2
            rw [e1]
            simp only [c_nex, e2]
            refine ⟨by first | decide | omega, by first | decide | omega, by first | decide | with_reducible exact ooc ‹_› ‹_› | omega, ok_ints 7 [c], ok_ints 7 _, ?_⟩
            rw [← decide_not]
            exact hK
          · simp only [List.map_map, List.mem_map] at hx
            obtain ⟨c, hc, rfl⟩ := hx
            simp only [M.bal_e, Function.comp] at hK ⊢
            simp only [E.var, q_val, setAll, g_z, g_s, List.set_cons_zero, List.set_cons_succ]
            exact hK
          · have e : List.take (Int.toNat 1) (b0.2.map D.int) ++ List.map (fun x => match x with | [d] => d | _ => D.none) (List.filter (fun x => match x with | [.int c] => decide (¬ [c] = b0.2.take 1) | _ => false) ((r.map D.int).map fun d => [d])) =
                (b0.2.take 1 ++ r.filter fun c => decide (¬ [c] = b0.2.take 1)).map D.int := by
              rw [List.map_map, List.filter_map, List.map_map, List.map_append, List.map_take]
              rfl
            rw [e]
            refine ⟨?_, ?_, ?_⟩
            · have := hmix.len
              simp only [List.length_map]; (first | with_reducible exact ooc ‹_› ‹_› | omega)
            · simp only [List.all_map, List.all_eq_true]
              intro x _; rfl
            · rw [ms_cons]
              simp only [S.freeze, q_mt, g_z, g_s, List.set_cons_zero, List.set_cons_succ, ms_nil]
              rw [e0] at last
              exact last _ hmix
      · exact last r hr
    · exact last r hr
  · exact last r hr

theorem ballots_spec (hC : HasCell X) (hW : HasWeight X) (hR : HasRow X) {ns : List Int} {k : Nat} {Q : D → Sg → Prop} (hl : ns.length ≤ 63) (hk : k ≤ 100) (q : ∀ B, Bal k B → Q (.lst (dB B)) σ) :
    mExecs X (n + 1) M.ballots [.val (.lst (ns.map D.int)), .val (.int k), .unb, .unb, .unb, .unb, .unb, .unb, .unb] σ (fun fl xx σ' => (∀ b, σ b ≠ none → σ' b ≠ none) ∧ Q (flD fl) σ') := by
  have rest : ∀ many : Int, 0 ≤ many → many ≤ 40 → mExecs X (n + 1) (M.ballots.drop 2) [.val (.lst (ns.map D.int)), .val (.int k), .val (.int many), .unb, .unb, .unb, .unb, .unb, .unb] σ (fun fl xx σ' => (∀ b, σ b ≠ none → σ' b ≠ none) ∧ Q (flD fl) σ') := by
    intro many m0 m1
    simp only [M.ballots, List.drop_succ_cons, List.drop_zero]
    rw [ms_cons]
    simp only [ev_nil, ev_cons, E.cst, E.var, E.bin, E.call, S.asg, q_val, flD, g_z, List.set_cons_zero, List.set_cons_succ]
    refine hC hl (by first | decide | omega) (by first | decide | omega) ?_
    simp only [b_mod]
    have k0 := fmod_nn (a := cellV ns 2) (b := 4) (by first | decide | omega)
    have k1 := fmod_ltt (a := cellV ns 2) (b := 4) (by first | decide | omega)
    refine ⟨by first | decide | omega, ?_⟩
    rw [ms_cons]
    simp only [ev_nil, L.disp, S.asgM, List.set_cons_zero, List.set_cons_succ, List.length_nil]
    refine ⟨by first | decide | omega, ?_⟩
    rw [ms_cons]
    simp only [E.var, It.range, S.for_, q_val, q_int, g_z, g_s, List.length_cons, List.length_nil, Nat.zero_add, true_and]
    refine ⟨by first | decide | omega, by first | decide | omega, ?_⟩
    refine for_inv (fun j ρ σ' => σ' = σ ∧ ∃ (a5 a6 a7 : MV) (B : List (Int × List Int)), ρ = [.val (.lst (ns.map D.int)), .val (.int k), .val (.int many), .val (.int ((cellV ns 2).fmod 4)), .mt (dB B), a5, a6, a7, .unb] ∧ B.length = j ∧ (∀ b ∈ B, 1 ≤ b.1 ∧ b.1 ≤ 1000000000) ∧ ∀ b ∈ B, RowOk k b.2) ?_ ?_ ?_
    · exact ⟨rfl, .unb, .unb, .unb, [], rfl, rfl, by simp, by simp⟩
    · rintro j hj ρ σ' ⟨rfl, a5, a6, a7, B, rfl, hlen, hwt, hrow⟩
      simp only [List.length_map, List.length_range] at hj
      simp only [List.getElem_map, List.getElem_range, setAll, List.set_cons_zero, List.set_cons_succ]
      refine bal_turn hC hW hR hl hk (by first | decide | omega) k0 k1 (by first | decide | omega) hrow fun w r h0 h1 hr => ?_
      refine ⟨rfl, _, _, _, B ++ [(w, r)], rfl, by simp [hlen], fun b hb => ?_, fun b hb => ?_⟩
      · rcases List.mem_append.mp hb with hb | hb
        · exact hwt b hb
        · rw [List.mem_singleton.mp hb]; exact ⟨h0, h1⟩
      · rcases List.mem_append.mp hb with hb | hb
        · exact hrow b hb
        · rw [List.mem_singleton.mp hb]; exact hr
    · rintro ρ σ' ⟨rfl, a5, a6, a7, B, rfl, hlen, hwt, hrow⟩
      simp only [List.length_map, List.length_range] at hlen
      rw [ms_cons]
      simp only [S.freeze, q_mt, g_z, g_s, List.set_cons_zero, List.set_cons_succ]
      rw [ms_cons]
      simp only [E.var, S.ret, q_val, keepS, g_z, g_s, true_and, ms_nil]
      exact q B ⟨by first | decide | omega, hwt, hrow⟩
  simp only [M.ballots, List.drop_succ_cons, List.drop_zero] at rest
  simp only [M.ballots]
  rw [ms_cons]
  simp only [ev_nil, ev_cons, E.cst, E.var, E.bin, E.call, S.asg, q_val, flD, g_z, List.set_cons_zero, List.set_cons_succ]
  refine hC hl (by first | decide | omega) (by first | decide | omega) ?_
  simp only [b_mod]
  refine ⟨by first | decide | omega, ?_⟩
  rw [ms_cons]
  simp only [ev_nil, ev_cons, E.cst, E.var, E.bin, E.cmp, E.call, S.iff, q_val, cond_bool, g_z, ms_nil]
  refine hC hl (by first | decide | omega) (by first | decide | omega) ?_
  simp only [b_div, b_mod, c_eq, decide_eq_true_eq]
  refine ⟨by first | decide | omega, ⟨by first | decide | omega, by first | decide | omega⟩, by first | decide | omega, ?_⟩
  split
  · rw [ms_cons]
    simp only [ev_nil, ev_cons, E.cst, E.var, E.bin, E.call, S.asg, q_val, g_z, List.set_cons_zero, List.set_cons_succ, ms_nil]
    refine hC hl (by first | decide | omega) (by first | decide | omega) ?_
    simp only [b_div, b_mod]
    refine ⟨by first | decide | omega, ⟨by first | decide | omega, by first | decide | omega⟩, by first | decide | omega, ?_⟩
    exact rest _ (fmod_nn (by first | decide | omega)) (Int.le_of_lt_add_one (fmod_ltt (by first | decide | omega)))
  · exact rest _ (fmod_nn (by first | decide | omega)) (by have := fmod_ltt (a := cellV ns 1) (b := 9) (by first | decide | omega); omega)

end
noncomputable def wsum (B : List (Int × List Int)) : Int := (B.map (·.1)).sum
noncomputable def quotaV (B : List (Int × List Int)) (s : Int) : Int := (wsum B).fdiv (s + 1) + 1

noncomputable def M.allw_e : E := (.idx (.var 1) (.cst (.int 0)))
noncomputable def M.allw : List S := [.ret (.bi .sum [(.lst (.comp M.allw_e [1] (.seq (.var 0)) none))])]
noncomputable def M.quota : List S := [.ret (.bin .add (.bin .fdiv (.call "all_weights" [(.var 0)]) (.bin .add (.var 1) (.cst (.int 1)))) (.cst (.int 1)))]

section
variable {X : Cx} {n : Nat} {σ : Sg}
theorem allw_spec {B : List (Int × List Int)} {Q : D → Sg → Prop} (hB : B.length ≤ 1000) (q : Q (.int (wsum B)) σ) :
    mExecs X n M.allw [.val (.lst (dB B)), .unb] σ (fun fl xx σ' => (∀ b, σ b ≠ none → σ' b ≠ none) ∧ Q (flD fl) σ') := by
  simp only [M.allw]
  rw [ms_cons]
  simp only [ev_nil, ev_cons, E.var, E.lst, E.bi, L.comp, It.seq, S.ret, q_val, q_one, flD, g_z, List.length_cons, List.length_nil, Nat.zero_add, List.length_map, ms_nil]
  have hdl : (dB B).length = B.length := by simp [dB]
  refine ⟨by first | decide | with_reducible exact oo9 ‹_› ‹_› | omega, ?_⟩
  refine comp_map (fun xx => true) (fun r => match r with | [.tup (d :: _)] => d | _ => .none) (fun r xx K h => h) (fun r hr xx K h => ?_) ?_
  · simp only [dB, List.map_map, List.mem_map] at hr
    obtain ⟨b, hb, rfl⟩ := hr
    simp only [M.allw_e, Function.comp] at h ⊢
    simp only [E.cst, E.var, E.idx, q_val, t_0, setAll, g_z, g_s, List.set_cons_zero, List.set_cons_succ]
    exact h
  · have e : List.map (fun r : List D => match r with | [.tup (d :: _)] => d | _ => D.none) (List.filter (fun xx => true) ((dB B).map fun d => [d])) = (B.map (·.1)).map D.int := by
      rw [filter_all]
      simp only [dB, List.map_map]
      rfl
    rw [e, f_sum]
    exact ⟨fun xx h => h, q⟩
noncomputable def HasAllw (X : Cx) : Prop := ∀ {n : Nat} {σ : Sg} {B : List (Int × List Int)} {Q : D → Sg → Prop}, B.length ≤ 1000 → Q (.int (wsum B)) σ → CallSem X (n + 1) "all_weights" [.lst (dB B)] σ Q
theorem quota_spec (hA : HasAllw X) {B : List (Int × List Int)} {s : Int} {Q : D → Sg → Prop} (hB : B.length ≤ 1000) (h0 : 0 ≤ s) (h1 : s ≤ 1000) (q : Q (.int (quotaV B s)) σ) :
    mExecs X (n + 1) M.quota [.val (.lst (dB B)), .val (.int s)] σ (fun fl xx σ' => (∀ b, σ b ≠ none → σ' b ≠ none) ∧ Q (flD fl) σ') := by
  simp only [M.quota]
  rw [ms_cons]
  simp only [ev_nil, ev_cons, E.cst, E.var, E.bin, E.call, S.ret, q_val, b_add, flD, g_z, g_s, ms_nil]
  refine hA hB ?_
  simp only [b_add, b_div, keepS, true_and]
  exact ⟨by first | decide | omega, ⟨by first | decide | omega, by first | decide | omega⟩, q⟩
noncomputable def HasBal (X : Cx) : Prop := ∀ {n : Nat} {σ : Sg} {ns : List Int} {k : Nat} {Q : D → Sg → Prop}, ns.length ≤ 63 → k ≤ 100 → (∀ B, Bal k B → Q (.lst (dB B)) σ) → CallSem X (n + 1 + 1) "_law_ballots" [.lst (ns.map D.int), .int k] σ Q
noncomputable def HasQuota (X : Cx) : Prop := ∀ {n : Nat} {σ : Sg} {B : List (Int × List Int)} {s : Int} {Q : D → Sg → Prop}, B.length ≤ 1000 → 0 ≤ s → s ≤ 1000 → Q (.int (quotaV B s)) σ → CallSem X (n + 1 + 1) "quota" [.lst (dB B), .int s] σ Q
end
noncomputable def dO : Option Int → D
  | none => .none
  | some c => .int c
noncomputable def placeV (row st : List Int) : Option Int := row.find? fun c => decide (c ∈ st)

theorem find_at {p : Int → Bool} : ∀ {row : List Int} {j : Nat} (hj : j < row.length), (∀ x ∈ row.take j, p x = false) → p row[j] = true → row.find? p = some row[j]
  | a :: row, 0, _, _, h => by
    simp only [List.getElem_cons_zero] at h ⊢
    simp [List.find?, h]
  | a :: row, j + 1, hj, hx, h => by
    have ha : p a = false := hx a (by simp)
    have hj' : j < row.length := by simpa using hj
    simp only [List.getElem_cons_succ] at h ⊢
    simp only [List.find?_cons, ha]
    exact find_at hj' (fun x hx' => hx x (by simp [hx'])) h
theorem find_not {p : Int → Bool} {row : List Int} (h : ∀ x ∈ row, p x = false) : row.find? p = none := by
  rw [List.find?_eq_none]
  intro x hx
  simp [h x hx]
theorem placeV_in {row st : List Int} {c : Int} (h : placeV row st = some c) : c ∈ row ∧ c ∈ st := by
  have h1 := List.mem_of_find?_eq_some h
  have h2 := List.find?_some h
  exact ⟨h1, by simpa using h2⟩

noncomputable def M.place_b : List S := [.iff (.cmp .in_ (.var 2) (.var 1)) [.ret (.var 2)] []]
noncomputable def M.place : List S := [.for_ [2] (.seq (.var 0)) M.place_b, .ret (.cst .none)]
noncomputable def M.held_b : List S := [.iff (.cmp .isn (.var 4) (.cst .none)) [.setI 3 (.var 4) (.borrow [3] (.bin .add (.idx (.var 3) (.var 4)) (.var 5)))] []]
noncomputable def M.held : List S := [.asgM 3 (.rep (.cst (.int 0)) (.var 0)), .for_ [4, 5] (.zip (.var 1) (.var 2)) M.held_b, .freeze 3, .ret (.var 3)]

noncomputable def heldT (acc : List Int) (p : Option Int × Int) : List Int := match p.1 with
  | none => acc
  | some c => acc.set c.toNat (acc.getD c.toNat 0 + p.2)
noncomputable def heldL (k : Nat) (pl : List (Option Int × Int)) : List Int := pl.foldl heldT (List.replicate k 0)
theorem heldT_len (acc : List Int) (p : Option Int × Int) : (heldT acc p).length = acc.length := by
  unfold heldT
  split <;> simp
theorem heldL_len (k : Nat) (pl : List (Option Int × Int)) : (heldL k pl).length = k := by
  unfold heldL
  have : ∀ (pl : List (Option Int × Int)) (acc : List Int), (pl.foldl heldT acc).length = acc.length := by
    intro pl
    induction pl with
    | nil => intro acc; rfl
    | cons p pl ih => intro acc; rw [List.foldl_cons, ih, heldT_len]
  rw [this]; simp
theorem heldL_take {k : Nat} {pl : List (Option Int × Int)} {j : Nat} (hj : j < pl.length) : heldL k (pl.take (j + 1)) = heldT (heldL k (pl.take j)) pl[j] := by
  unfold heldL
  rw [← List.take_append_getElem hj, List.foldl_append]
  rfl
theorem set_ints (l : List Int) (i : Nat) (v : Int) : (l.map D.int).set i (.int v) = (l.set i v).map D.int := by rw [List.map_set]

section
variable {X : Cx} {n : Nat} {σ : Sg}
theorem held_spec {k : Nat} {ps : List (Option Int)} {ls : List Int} {Q : D → Sg → Prop} (hk : k ≤ 1000) (hin : ∀ p ∈ ps, ∀ c, p = some c → 0 ≤ c ∧ c < (k : Int)) (q : Q (.lst ((heldL k (ps.zip ls)).map D.int)) σ) :
    mExecs X n M.held [.val (.int k), .val (.lst (ps.map dO)), .val (.lst (ls.map D.int)), .unb, .unb, .unb] σ (fun fl xx σ' => (∀ b, σ b ≠ none → σ' b ≠ none) ∧ Q (flD fl) σ') := by
  simp only [M.held]
  rw [ms_cons]
  simp only [E.cst, E.var, L.rep, S.asgM, q_val, q_int, flD, g_z, List.set_cons_zero, List.set_cons_succ]
  refine ⟨by first | decide | with_reducible exact oo1 _ | omega, by first | decide | with_reducible exact oo8 ‹_› | omega, ?_⟩
  have e0 : List.replicate (k : Int).toNat (D.int 0) = (heldL k []).map D.int := by simp [heldL]
  rw [e0]
  rw [ms_cons]
  simp only [E.var, It.zip, S.for_, q_val, q_lst, g_z, g_s, List.length_cons, List.length_nil, Nat.zero_add, true_and]
  have e1 : (List.map (fun p => [p.1, p.2]) ((ps.map dO).zip (ls.map D.int))) = (ps.zip ls).map fun p => [dO p.1, .int p.2] := by
    rw [List.zip_map, List.map_map]; rfl
  rw [e1]
  refine for_inv (fun j ρ σ' => σ' = σ ∧ ∃ (a b : MV), ρ = [.val (.int k), .val (.lst (ps.map dO)), .val (.lst (ls.map D.int)), .mt ((heldL k ((ps.zip ls).take j)).map D.int), a, b]) ?_ ?_ ?_
  · exact ⟨rfl, .unb, .unb, rfl⟩
  · rintro j hj ρ σ' ⟨rfl, a, b, rfl⟩
    simp only [List.length_map] at hj
    simp only [List.getElem_map, M.held_b]
    rw [heldL_take hj]
    have hlen := heldL_len k ((ps.zip ls).take j)
    generalize heldL k ((ps.zip ls).take j) = acc at hlen
    have hmem := (List.of_mem_zip (show ((ps.zip ls)[j].1, (ps.zip ls)[j].2) ∈ ps.zip ls from List.getElem_mem hj)).1
    generalize (ps.zip ls)[j] = p at hmem
    obtain ⟨p, w⟩ := p
    rw [ms_cons]
    simp only [E.cst, E.var, E.cmp, S.iff, q_val, c_isn, cond_bool, setAll, g_z, g_s, List.set_cons_zero, List.set_cons_succ, true_and, Bool.not_eq_true', ms_nil]
    cases p with
    | none =>
      simp only [dO, D.isNone]
      exact ⟨_, _, rfl⟩
    | some c =>
      have hc := hin _ hmem c rfl
      simp only [dO, D.isNone]
      rw [if_pos trivial]
      rw [ms_cons]
      simp only [E.var, E.bin, E.idx, E.borrow, S.setI, q_val, q_mt, q_int, b_add, i_ints, frzAll, at_i, g_z, g_s, List.set_cons_zero, List.set_cons_succ, List.length_map, true_and, ms_nil]
      refine ⟨by first | decide | with_reducible exact oo9 ‹_› ‹_› | omega, ⟨hc.1, by first | decide | with_reducible exact oos ‹_› ‹_› | omega, by first | decide | omega, hc.1, by first | decide | omega, ?_⟩⟩
      rw [set_ints]
      exact ⟨_, _, rfl⟩
  · rintro ρ σ' ⟨rfl, a, b, rfl⟩
    rw [List.length_map, List.take_length]
    rw [ms_cons]
    simp only [S.freeze, q_mt, g_z, g_s, List.set_cons_zero, List.set_cons_succ]
    rw [ms_cons]
    simp only [E.var, S.ret, q_val, keepS, g_z, g_s, true_and, ms_nil]
    exact q
noncomputable def HasHeld (X : Cx) : Prop := ∀ {n : Nat} {σ : Sg} {k : Nat} {ps : List (Option Int)} {ls : List Int} {Q : D → Sg → Prop}, k ≤ 1000 → (∀ p ∈ ps, ∀ c, p = some c → 0 ≤ c ∧ c < (k : Int)) → Q (.lst ((heldL k (ps.zip ls)).map D.int)) σ →
  CallSem X (n + 1) "held" [.int k, .lst (ps.map dO), .lst (ls.map D.int)] σ Q
end
section
open PySem.W
noncomputable def Sg.put (σ : Sg) (a : Addr) (t : TObj) : Sg := fun b => if b = a then some t else σ b
theorem Sg.put_self (σ : Sg) (a : Addr) (t : TObj) : Sg.put σ a t a = some t := by simp [Sg.put]
theorem Sg.put_ne {σ : Sg} {a b : Addr} {t : TObj} (h : b ≠ a) : Sg.put σ a t b = σ b := by simp [Sg.put, h]

section
variable {g : Heap} {s s' : Shared} {Φ Φ' : Fz} {σ σ' : Sg}
theorem Step.track (ok : Ok g σ Φ s.heap) (x : Step g s s' Φ Φ' σ σ') {a : Addr} {t : TObj} (hn : s.heap.get? a = none) (hf : Φ' a = none) (hr : TRel Φ' s'.heap a t) : Step g s s' Φ Φ' σ (σ'.put a t) :=
  ⟨x.same, x.keep, x.mono, ⟨fun b o e => by
      have hb : b ≠ a := fun q => by have := (ok.base b o e).1; rw [q, hn] at this; cases this
      rw [Sg.put_ne hb]; exact x.ok.base b o e, fun b o e => by
      have hb : b ≠ a := fun q => by rw [q, hf] at e; cases e
      rw [Sg.put_ne hb]; exact x.ok.frz b o e, fun b u e => by
      by_cases hb : b = a
      · subst hb; rw [Sg.put_self] at e; cases e; exact hr
      · rw [Sg.put_ne hb] at e; exact x.ok.trk b u e⟩, fun b hb => by
      by_cases q : b = a
      · subst q; exact .inr hn
      · rw [Sg.put_ne q] at hb; exact x.newS b hb, x.newF, x.live⟩
theorem Step.put1 (ok : Ok g σ Φ s.heap) {a : Addr} {t t' : TObj} {h' : Heap} {tk : Nat} (ha : σ a = some t) (hs : Heap.SameBut a s.heap h') (hr : TRel Φ h' a t') : Step g s { s with heap := h', toks := tk } Φ Φ σ (σ.put a t') :=
  have ne : ∀ b, σ b = none → b ≠ a := fun b hb q => by rw [q, ha] at hb; cases hb
  ⟨⟨h', tk, rfl⟩, fun b o e hb => (hs.2 b (ne b hb)).trans e, Fz.le.refl _, ⟨fun b o e => by
      have h := ok.base b o e
      rw [Sg.put_ne (ne b h.2)]; exact ⟨(hs.2 b (ne b h.2)).trans h.1, h.2⟩, fun b o e => by
      have h := ok.frz b o e
      rw [Sg.put_ne (ne b h.2)]; exact ⟨(hs.2 b (ne b h.2)).trans h.1, h.2⟩, fun b u e => by
      by_cases hb : b = a
      · subst hb; rw [Sg.put_self] at e; cases e; exact hr
      · rw [Sg.put_ne hb] at e; exact (ok.trk b u e).mono (Fz.le.refl _) fun o x => (hs.2 b hb).trans x⟩, fun b hb => by
      by_cases q : b = a
      · subst q; exact .inl (by rw [ha]; simp)
      · rw [Sg.put_ne q] at hb; exact .inl hb, fun xx h => .inl h, fun b hb => by
      by_cases q : b = a
      · subst q; obtain ⟨o, ho⟩ := hr.isSome; rw [ho] at hb; cases hb
      · rw [← hs.2 b q]; exact hb⟩
end
theorem look_ns {h : Heap} {a : Addr} {m : Str → Option Value} (hn : h.Ns1 a m) : ∃ o, h.get? a = some o ∧ ∀ x, lookIn x o = some (m x) := by
  obtain ⟨o, es, ep, ho, hd, hk, _, hm⟩ := hn
  refine ⟨o, ho, fun x => ?_⟩
  have hx := hm x
  unfold lookIn
  rw [hd]
  dsimp only
  unfold nsFind findBy at hx
  rw [← Array.find?_toList] at hx
  cases e : es.toList.find? (·.key.isStr x) with
  | some en => rw [e] at hx; simp only [Option.map_some] at hx; rw [← hx]
  | none =>
    rw [e] at hx
    simp only [Option.map_none] at hx
    rw [← hx]
    have : (es.toList.any (·.refKey)) = false := by
      rw [List.any_eq_false]
      intro en he
      obtain ⟨n, t, h⟩ := hk en (by simpa using he)
      simp [DictEntry.refKey, h]
    simp [this]

theorem Rd.handed {Φ : Fz} {v : Value} {d : D} (r : Rd Φ v d) : handedIn v = true := by cases r <;> rfl

noncomputable def attrChk (K : Frag) (C : Addr) (name : Str) : Bool := findIn K (.ref C) "__getattribute__" == some (some (.builtin "object.__getattribute__")) && findIn K (.ref C) name == some none && (clsIn K C).any (·.hasDict) &&
  findIn K (.ref C) "__setattr__" == some (some (.builtin "object.__setattr__")) && plainOver K C
noncomputable def AttrOk (X : Cx) (C : Addr) (name : Str) : Prop := ∃ K : Frag, K.In X.g ∧ attrChk K C name = true
noncomputable def methChk (K : Frag) (C : Addr) (name : Str) (f : Addr) : Bool := findIn K (.ref C) "__getattribute__" == some (some (.builtin "object.__getattribute__")) && findIn K (.ref C) "__getattr__" == some none &&
  findIn K (.ref C) name == some (some (.ref f)) && typeIn K (.ref f) == some (.type "function") && keepIn K (.ref f)
noncomputable def MethAt (X : Cx) (C : Addr) (name : Str) (f : Addr) : Prop := ∃ K : Frag, K.In X.g ∧ methChk K C name f = true
noncomputable def mkChk (K : Frag) (C : Addr) (f : Addr) : Bool := makesIn K C && findIn K (.ref C) "__init__" == some (some (.ref f)) && typeIn K (.ref f) == some (.type "function") && keepIn K (.ref C)
noncomputable def MakeAt (X : Cx) (C : Addr) (f : Addr) : Prop := ∃ K : Frag, K.In X.g ∧ mkChk K C f = true

noncomputable def E.attr (e : E) (name : Str) : E := fun X n ρ σ Q => e X n ρ σ fun x σ => ∃ a C dx fs d, x = .ref a ∧ σ a = some (.inst C dx) ∧ σ dx = some (.ns fs) ∧ AttrOk X C name ∧ fs.lookup name = some d ∧ Q d σ
noncomputable def E.meth (e : E) (name : Str) : E := fun X n ρ σ Q => e X n ρ σ fun x σ => ∃ a C dx fs f, x = .ref a ∧ σ a = some (.inst C dx) ∧ σ dx = some (.ns fs) ∧ fs.lookup name = none ∧ MethAt X C name f ∧ CallA X n (.ref f) [.ref a] σ Q
noncomputable def E.make (cn : Str) (args : List E) : E := fun X n ρ σ Q => ∃ C f k, X.mg cn = some (.ref C) ∧ MakeAt X C f ∧ n = k + 1 ∧ mEvals X n args ρ σ fun ds σ =>
  ∀ a dx, a ≠ dx → σ a = none → σ dx = none → CallA X k (.ref f) (.ref a :: ds) ((σ.put dx (.ns [])).put a (.inst C dx)) fun d σ' => d = .none ∧ Q (.ref a) σ'
noncomputable def E.track (l : L) : E := fun X n ρ σ Q => l X n ρ σ fun ds σ => ∀ a, σ a = none → Q (.ref a) (σ.put a (.list ds))
noncomputable def E.last (e : E) : E := fun X n ρ σ Q => e X n ρ σ fun x σ => ∃ a ds d, x = .ref a ∧ σ a = some (.list ds) ∧ ds.length ≤ 2 ^ 20 ∧ ds.getLast? = some d ∧ Q d σ
noncomputable def E.appT (o e : E) : E := fun X n ρ σ Q => o X n ρ σ fun x σ => ∃ a ds₀, x = .ref a ∧ σ a = some (.list ds₀) ∧ e X n ρ σ fun d σ => ∃ ds, σ a = some (.list ds) ∧ ds.length < 2 ^ 20 ∧ Q .none (σ.put a (.list (ds ++ [d])))
noncomputable def E.glob (x : Str) : E := fun X xx xx σ Q => ∃ i t, X.mg x = some (.int i t) ∧ Q (.int i) σ
noncomputable def S.setA (o : E) (name : Str) (e : E) : S := fun X n ρ σ Q => e X n ρ σ fun d σ => o X n ρ σ fun x σ => ∃ a C dx fs, x = .ref a ∧ σ a = some (.inst C dx) ∧ σ dx = some (.ns fs) ∧ fs.length ≤ 100 ∧ AttrOk X C name ∧ fs.lookup name = none ∧ Q .next ρ (σ.put dx (.ns (fs ++ [(name, d)])))
noncomputable def S.dead : S := fun xx xx xx xx xx => False

section
variable {X : Cx} {n : Nat} {sc : Scope} {names : List Str}

theorem OvR.some' {Φ : Fz} {v : Option Value} {d : D} (h : OvR Φ v (some d)) : ∃ u, v = some u ∧ Rd Φ u d := by
  cases h with | so r => exact ⟨_, rfl, r⟩
theorem OvR.none' {Φ : Fz} {v : Option Value} (h : OvR Φ v none) : v = none := by
  cases h; rfl

theorem inst_at {h : Heap} {a C dx : Addr} {o : Obj} (h1 : h.get? a = some { cls := .ref C, dict := some dx, data := .plain }) (h2 : h.get? dx = some o) : InstAt h a (instObj C dx) C (some o) := ⟨h1, rfl, rfl, h2⟩

theorem SE_attr {x name : Str} {p pos : Pos} {e : E} (hx : SE X n sc names (.Name x p) e) : SE X n sc names (.Attribute (.Name x p) name pos) (.attr e name) := by
  intro env A s Φ ρ σ Q he eo hroom ok F h
  refine Attribute_Name_ (wpAny_mono (hx env A s Φ ρ σ _ he eo hroom ok F h) ?_ fun xx xx h => h.elim)
  rintro v s₁ ⟨_, σ₁, Φ₁, st, r, a, C, dx, fs, d, rfl, ha, hd, ⟨K, hK, hc⟩, hl, q⟩
  cases r
  have t1 : s₁.heap.get? a = _ := st.ok.trk a _ ha
  obtain ⟨m, hn, hm⟩ := st.ok.trk dx _ hd
  obtain ⟨o, ho, hlk⟩ := look_ns hn
  have hv := hm name
  rw [hl] at hv
  obtain ⟨v, hv, rv⟩ := hv.some'
  have X1 : K.In s₁.heap := hK.keeps fun b o e => (st.ok.base b o e).1
  simp only [attrChk, Bool.and_eq_true, beq_iff_eq] at hc
  obtain ⟨⟨⟨⟨h1, h2⟩, h3⟩, _⟩, _⟩ := hc
  obtain ⟨cd, hcd, hdi⟩ := any_some h3
  refine get_value X1 (inst_at t1 ho) h1 ?_ rv.handed ⟨d, σ₁, Φ₁, st.trans (Step.tok st.ok _), rv, q⟩
  unfold findObj
  rw [hcd, h2]
  simp only [Option.bind_some]
  unfold W.ownOf
  rw [hdi, if_pos rfl]
  simp only [hlk, hv, Option.bind_some]

theorem SE_meth {x name : Str} {p apos pos : Pos} {e : E} (hx : SE X n sc names (.Name x p) e) (hl : (apos.endLine == pos.line) = true) : SE X n sc names (.Call (.Attribute (.Name x p) name apos) [] [] pos) (.meth e name) := by
  intro env A s Φ ρ σ Q he eo hroom ok F h
  refine MethodCall_ (wpAny_mono (hx env A s Φ ρ σ _ he eo hroom ok F h) ?_ fun xx xx h => h.elim) (meth_eq hl rfl (by simp))
  rintro v s₁ ⟨_, σ₁, Φ₁, st, r, a, C, dx, fs, f, rfl, ha, hd, hno, ⟨K, hK, hc⟩, q⟩
  cases r
  have t1 : s₁.heap.get? a = _ := st.ok.trk a _ ha
  obtain ⟨m, hn, hm⟩ := st.ok.trk dx _ hd
  obtain ⟨o, ho, hlk⟩ := look_ns hn
  have hv := hm name
  rw [hno] at hv
  have hv := hv.none'
  have X1 : K.In s₁.heap := hK.keeps fun b o e => (st.ok.base b o e).1
  simp only [methChk, Bool.and_eq_true, beq_iff_eq] at hc
  obtain ⟨⟨⟨⟨h1, h2⟩, h3⟩, h4⟩, h5⟩ := hc
  refine method_fn X1 (inst_at t1 ho) h1 h2 h3 h4 (by simp [shadowIn, hlk, hv]) ?_
  refine callWith_K0 X1 h5 ?_
  refine wpAny_mono (q.wp hroom st.ok (.one (.ref a))) ?_ fun xx xx h => h.elim
  rintro v₂ s₂ ⟨d, σ₂, Φ₂, st₂, r₂, q₂⟩
  exact ⟨d, σ₂, Φ₂, st.trans st₂, r₂, q₂⟩

theorem Room.under {k : Nat} {A : Around} (h : Room X (k + 1) A) {c : Code} (h1 : c.weight ≤ 1) (h2 : c.cUnits ≤ 8) : Room X k (A.under c) := by
  obtain ⟨a, b, d⟩ := h
  refine ⟨a, ?_, ?_⟩
  · show A.depth + c.weight + k < recursionLimit; omega
  · show A.units + c.cUnits + 8 * k + 200 < cLine; omega

theorem SE_make {cn : Str} {x : Expr} {xs : List Expr} {es : List E} {p pos : Pos} (G : Gnd X) (hx : SEs X n sc names (x :: xs) es) (hk : sc.names.lookup cn = some .globalImplicit) (hs : (x :: xs).all notStar = true)
    (hd : (cn == ("__debug__" : Str)) = false) : SE X n sc names (.Call (.Name cn p) (x :: xs) [] pos) (.make cn es) := by
  intro env A s Φ ρ σ Q he eo hroom ok F h
  obtain ⟨C, f, k, hmg, ⟨K, hK, hc⟩, rfl, h⟩ := h
  have hkf : env.kindOf cn = some .globalImplicit := by rw [Env.kindOf_sc he]; exact hk
  simp only [List.all_cons, Bool.and_eq_true] at hs
  simp only [mkChk, Bool.and_eq_true, beq_iff_eq] at hc
  obtain ⟨⟨⟨h1, h2⟩, h3⟩, h4⟩ := hc
  refine Call_Name rfl (name_fn G ok eo hkf hmg hd ?_)
  refine callWith_K (hK.keeps fun b o e => (ok.base b o e).1) h4 (wpAny_mono (hx env A s Φ ρ σ _ pos he eo hroom ok F h) ?_ fun xx xx h => h.elim) (starEach_cons hs.1) (plain_star xs hs.2)
  rintro vs s₁ ⟨ds, σ₁, Φ₁, st, r, q⟩
  have X1 : K.In s₁.heap := hK.keeps fun b o e => (st.ok.base b o e).1
  refine ⟨X1, ?_⟩
  refine wpAny_call ?_
  obtain ⟨hh, g, dr, t, os⟩ := s₁
  refine make_core (makes_of X1 h1) (looks_findIn X1 h2) (fun self => bind_fn X1 self h3) (.inl rfl) ?_
  have n0 : hh.get? hh.objs.size = none := size_none hh
  have n1 : hh.get? (hh.objs.size + 1) = none := none_of_ge (Nat.le_succ _)
  have s0 := st.ok.freshS n0
  have s1 := st.ok.freshS n1
  have f0 := st.ok.freshF n0
  have f1 := st.ok.freshF n1
  have e1 : ((hh.push emptyDict).push (instObj C hh.objs.size)).get? hh.objs.size = some emptyDict := Heap.get?_push_of_some _ (Heap.get?_push_size _ rfl)
  have e2 : ((hh.push emptyDict).push (instObj C hh.objs.size)).get? (hh.objs.size + 1) = some (instObj C hh.objs.size) := by
    have := Heap.get?_push_size (hh.push emptyDict) (o := instObj C hh.objs.size) rfl
    rwa [Heap.size_push] at this
  have nsE : ((hh.push emptyDict).push (instObj C hh.objs.size)).Ns1 hh.objs.size fun xx => none := Heap.Ns1.of_empty ⟨emptyDict, #[], 0, e1, rfl, fun xx he => by simp at he, fun xx => rfl⟩
  have k1 : Step X.g ⟨hh, g, dr, t, os⟩ ⟨(hh.push emptyDict).push (instObj C hh.objs.size), g, dr, t, os⟩ Φ₁ Φ₁ σ₁ σ₁ := Step.keeps (tk := t) st.ok fun b o e => Heap.get?_push_of_some _ (Heap.get?_push_of_some _ e)
  have k2 := (k1.track st.ok (t := .ns []) n0 f0 ⟨_, nsE, fun xx => .no⟩).track st.ok (t := .inst C hh.objs.size) n1 f1 e2
  have z := q (hh.objs.size + 1) hh.objs.size (Nat.succ_ne_self _) s1 s0 _ _ Φ₁ (.ref (hh.objs.size + 1) :: vs) (hroom.under (c := .builtin "type.__call__" ⟨.ref C :: vs, []⟩) (Nat.le_of_ble_eq_true rfl) (Nat.le_of_ble_eq_true rfl)) k2.ok (.cons (.ref _) r)
  refine codeAny_mono z fun r s' hr => ?_
  cases r with
  | error e => exact hr
  | ok f =>
    cases f with
    | ret v =>
      obtain ⟨d, σ₂, Φ₂, st₂, rd, rfl, q₂⟩ := hr
      cases rd
      exact ⟨rfl, _, σ₂, Φ₂, st.trans (k2.trans st₂), .ref _, q₂⟩
    | _ => exact hr

theorem SE_track {x : Expr} {l : L} (hx : SL X n sc names x l) : SE X n sc names x (.track l) := by
  intro env A s Φ ρ σ Q he eo hroom ok F h
  refine wpAny_mono (hx env A s Φ ρ σ _ he eo hroom ok F h) ?_ fun xx xx h => h.elim
  rintro v s₁ ⟨a, vs, ds, σ₁, Φ₁, rfl, st, hn, hpl, h1, h2, r, q⟩
  exact ⟨_, _, Φ₁, st.track ok (t := .list ds) hn h2 ⟨vs, hpl, r⟩, .ref a, q a h1⟩

theorem SE_glob {x : Str} {p : Pos} (G : Gnd X) (hk : sc.names.lookup x = some .globalImplicit) (hd : (x == ("__debug__" : Str)) = false) : SE X n sc names (.Name x p) (.glob x) := by
  intro env A s Φ ρ σ Q he eo hroom ok F h
  obtain ⟨i, t, hm, q⟩ := h
  exact name_fn G ok eo (by rw [Env.kindOf_sc he]; exact hk) hm hd ⟨_, σ, Φ, Step.refl ok, .int i t, q⟩

theorem SE_last {x : Expr} {e : E} {k : Nat} {p p' pos : Pos} (hx : SE X n sc names x e) : SE X n sc names (.Subscript x (.UnaryOp .USub (.Constant (.int 1) k p) p') pos) (.last e) := by
  intro env A s Φ ρ σ Q he eo hroom ok F h
  refine Subscript_ (wpAny_mono (hx env A s Φ ρ σ _ he eo hroom ok F h) ?_ fun xx xx h => h.elim)
  rintro v s₁ ⟨_, σ₁, Φ₁, st, r, a, ds, d, rfl, ha, hlen, hl, q⟩
  cases r
  have q1 : (E.neg (.cst (.int 1))) X n ρ σ₁ fun x σ => x = .int (-1) ∧ σ = σ₁ := ⟨rfl, rfl⟩
  refine wpAny_mono (SE_neg SE_int env A s₁ Φ₁ ρ σ₁ _ he eo hroom st.ok (F.step st) q1) ?_ fun xx xx h => h.elim
  rintro w s₂ ⟨_, σ₂, Φ₂, st₂, r₂, rfl, rfl⟩
  cases r₂ with
  | int _ t =>
    obtain ⟨vs, ⟨k, hpl⟩, ra⟩ := st₂.ok.trk a _ ha
    have hlv := ra.length
    simp only [Array.length_toList] at hlv
    have hne : ds ≠ [] := fun e => by rw [e] at hl; cases hl
    have hpos : 0 < ds.length := List.length_pos_iff.mpr hne
    rw [List.getLast?_eq_getElem?] at hl
    obtain ⟨v, hv, rv⟩ := ra.get hl
    have hL : s₂.heap.IsList a vs := ⟨_, hpl, rfl, _, rfl⟩
    refine tail_any hL.typeIs slot_list_getitem.lookup (wpAny_getItem_list_neg (x := v) hL (by decide) (by omega) (by decide) ?_ ⟨_, σ₂, Φ₂, st.trans st₂, rv, q⟩) (subscripted_eq rfl)
    have e : ((-1 : Int) + vs.size).toNat = ds.length - 1 := by omega
    rw [e]
    simpa using hv

noncomputable def MethEq (r : Expr) (name : Str) (args : List Expr) (apos pos : Pos) : Prop := ∀ env, ∃ pl, eval (.Call (.Attribute r name apos) args [] pos) env = (do
      let ov ← eval r env
      standAt apos.atName
      let (f, first) ← holding [ov] (getMethod ov name pl)
      callWith pos f first (backTo pos (starEach args env)) [])
theorem meth_form {env : Env} {pos : Pos} {args : List Expr} (hs : args.all notStar = true) (hn : decide (args.length < 30) = true) : methodCallForm (args.length + 0) (backTo pos (starEach args env)) (backToKw pos (keywordEach [] env)) = true := by
  have h1 : (backTo pos (starEach args env)).all (!·.1) = true := by
    have := plain_star (pos := pos) (env := env) args hs
    rw [List.any_eq_false] at this
    rw [List.all_eq_true]
    intro q hq
    have := this q hq
    simpa using this
  unfold methodCallForm
  rw [h1]
  simp [backToKw, keywordEach]
  have := of_decide_eq_true hn
  first | with_reducible assumption | omega
theorem methA {b : Expr} {nm : Str} {ap apos pos : Pos} {name : Str} {args : List Expr} (hl : (apos.endLine == pos.line) = true) (hs : args.all notStar = true) (hn : decide (args.length < 30) = true) : MethEq (.Attribute b nm ap) name args apos pos := by
  intro env
  refine ⟨do return (← importBound (.Attribute b nm ap) env).getD true, ?_⟩
  have h2 := meth_form (pos := pos) (env := env) hs hn
  show (do
    let ov ← eval (.Attribute b nm ap) env
    standAt apos.atName
    methodCall (.Attribute b nm ap) name apos pos env ov (args.length + 0) (backTo pos (starEach args env)) (backToKw pos (keywordEach [] env))) = _
  unfold methodCall
  simp only [h2, calleeOf, methodCallPos, hl, if_true, Bool.not_true, Bool.false_or, pure_bind]
  rfl
theorem methS {b i : Expr} {ap apos pos : Pos} {name : Str} {args : List Expr} (hl : (apos.endLine == pos.line) = true) (hs : args.all notStar = true) (hn : decide (args.length < 30) = true) : MethEq (.Subscript b i ap) name args apos pos := by
  intro env
  refine ⟨do return (← importBound (.Subscript b i ap) env).getD true, ?_⟩
  have h2 := meth_form (pos := pos) (env := env) hs hn
  show (do
    let ov ← eval (.Subscript b i ap) env
    standAt apos.atName
    methodCall (.Subscript b i ap) name apos pos env ov (args.length + 0) (backTo pos (starEach args env)) (backToKw pos (keywordEach [] env))) = _
  unfold methodCall
  simp only [h2, calleeOf, methodCallPos, hl, if_true, Bool.not_true, Bool.false_or, pure_bind]
  rfl

set_option tactic.hygienic true in
theorem SE_appT {b : Expr} {v : Expr} {o e : E} {apos pos : Pos} (ho : SE X n sc names b o) (hv : SE X n sc names v e) (hs : notStar v = true) (hm : MethEq b "append" [v] apos pos) :
    SE X n sc names (.Call (.Attribute b "append" apos) [v] [] pos) (.appT o e) := by
  intro env A s Φ ρ σ Q he eo hroom ok F h
  obtain ⟨pl, heq⟩ := hm env
  refine MethodCall_ (wpAny_mono (ho env A s Φ ρ σ _ he eo hroom ok F h) ?_ fun xx xx h => h.elim) heq
  rintro w s₁ ⟨_, σ₁, Φ₁, st, r, a, ds₀, rfl, ha, q⟩
  cases r
  obtain ⟨vs, ⟨k, hpl⟩, ra⟩ := st.ok.trk a _ ha
  refine Calls.getMethod_list_append hpl rfl rfl ?_
  refine callWith_method1 ?_ (starEach_cons hs) rfl
  have h1 : mEvals X n [e] ρ σ₁ (fun ds' σ => ∃ d, ds' = [d] ∧ ∃ ds, σ a = some (.list ds) ∧ ds.length < 2 ^ 20 ∧ Q .none (σ.put a (.list (ds ++ [d])))) := by
    simp only [mEvals, List.cons.injEq, and_true, exists_eq_left']; exact q
  refine wpAny_mono (SEs_cons hv SEs_nil hs env A s₁ Φ₁ ρ σ₁ _ pos he eo hroom st.ok (F.step st) h1) ?_ fun xx xx h => h.elim
  rintro ws s₂ ⟨_, σ₂, Φ₂, st₂, r, d, rfl, ds, ha₂, hlen, q⟩
  cases r with
  | cons r1 r2 =>
    cases r2
    rename_i y
    obtain ⟨vs, hpl, ra⟩ := st₂.ok.trk a _ ha₂
    refine wpAny_list_append_plain hpl (fun h' hl' hs' => ?_) (by have := ra.length; simp only [Array.length_toList] at this; unfold sizeLine; omega)
    have rr : RdAll Φ₂ (vs.push y).toList (ds ++ [d]) := by simpa using ra.append (.one r1)
    have st₃ := Step.put1 (tk := s₂.toks) (t' := .list (ds ++ [d])) st₂.ok ha₂ hs' ⟨_, hl', rr⟩
    exact ⟨_, _, Φ₂, (st.trans st₂).trans st₃, .none, q⟩

theorem SS_dead {st : Stmt} : SS X n sc names st .dead := fun xx xx xx xx xx xx xx xx xx xx xx xx xx h => h.elim

theorem SS_setA {x name : Str} {v : Expr} {o e : E} {p apos pos : Pos} (ho : SE X n sc names (.Name x p) o) (hv : SE X n sc names v e) (hc : ∀ env, swapsWith v (some (.Attribute (.Name x p) name apos)) pos.line env = pure false) : SS X n sc names (.Assign [.Attribute (.Name x p) name apos] v pos) (.setA o name e) := by
  intro env A s B Φ₀ ρ σ Φ Q he eo hr I h
  refine plainObj_wpAny_Assign_Attribute (wpAny_mono (hv env A s Φ ρ σ _ he eo hr I.ok I.frame h) ?_ fun xx xx h => h.elim) (hc env)
  rintro v s₁ ⟨d, σ₁, Φ₁, st, r, q⟩
  refine wpAny_mono (ho env A s₁ Φ₁ ρ σ₁ _ he eo hr st.ok (I.step st).frame q) ?_ fun xx xx h => h.elim
  rintro w s₂ ⟨_, σ₂, Φ₂, st₂, r₂, a, C, dx, fs, rfl, ha, hd, hlen, ⟨K, hK, hc⟩, hno, q⟩
  cases r₂
  have t1 : s₂.heap.get? a = _ := st₂.ok.trk a _ ha
  obtain ⟨m, hn, hm⟩ := st₂.ok.trk dx _ hd
  obtain ⟨o, hdo, hlk⟩ := look_ns hn
  have X1 : K.In s₂.heap := hK.keeps fun b o e => (st₂.ok.base b o e).1
  simp only [attrChk, Bool.and_eq_true, beq_iff_eq] at hc
  obtain ⟨⟨⟨⟨h1, h2⟩, h3⟩, h4⟩, h5⟩ := hc
  obtain ⟨cd, hcd, hdi⟩ := any_some h3
  refine set_plain X1 (inst_at t1 hdo) h4 ?_
  refine osa_open (s := { s₂ with toks := s₂.toks + 1 }) X1 (inst_at t1 hdo) h5 (r := none) (by simp [takerIn, h2]) fun b => ?_
  refine wpAny_bind (wpAny_pure (wpAny_bind (wpAny_bind (wpAny_loadPart t1 (wpAny_bind (looks_clsIn X1 hcd _ _ _ _ (fun xx xx e => e) ?_))))))
  rw [hdi]
  refine wpAny_pure (a := some dx) ?_
  show wpAny _ _ (Builtin.ObjectAttr.storeInDict dx (.str name s₂.toks) name v) _ _ _
  unfold Builtin.ObjectAttr.storeInDict Builtin.ObjectAttr.newKeyGuard
  have hw : Within m (fs.map (·.1)) := fun y hy => by
    have := hm y
    cases e : fs.lookup y with
    | none => rw [e] at this; exact absurd this.none' hy
    | some d => exact List.mem_map.mpr ⟨_, mem_of_lookup e, rfl⟩
  refine wpAny_bind (wpAny_pure (wpAny_bind (wpAny_nsSet1 hn fun h' hn' hs => ?_)))
  obtain ⟨oD, esD, epD, hoD, hdD, hcD⟩ := hn'.count (Within.cons name v hw)
  refine wpAny_bind (wpAny_lookBehind hoD (by rw [hdD]; exact pastItsLine_dict (Nat.le_trans hcD (by rw [List.length_cons, List.length_map, sizeLine_eq]; omega))) ?_)
  refine wpAny_pure ?_
  have rel : ∀ x, OvR Φ₂ (if x = name then some v else m x) ((fs ++ [(name, d)]).lookup x) := fun x => by
    rw [List.lookup_append]
    by_cases hx : x = name
    · subst hx
      rw [if_pos rfl, hno]
      simp only [Option.none_or, List.lookup, beq_self_eq_true]
      exact .so (r.mono st₂.mono)
    · rw [if_neg hx]
      have : ([(name, d)] : List (Str × D)).lookup x = none := by
        simp only [List.lookup]
        have : (x == name) = false := by simpa using hx
        rw [this]
      rw [this, Option.or_none]
      exact hm x
  have st₃ := Step.put1 (tk := s₂.toks + 1 + 1) (t' := .ns (fs ++ [(name, d)])) st₂.ok hd hs ⟨_, hn', rel⟩
  have stt := (st.trans st₂).trans st₃
  exact ⟨.next, ρ, _, Φ₂, stt.same, I.step stt, stt.mono, trivial, q⟩
end
end
section
open PySem.W
section
variable {X : Cx} {n : Nat} {sc : Scope} {names : List Str}
theorem SE_tuple1 {x : Expr} {e : E} {p pos : Pos} (G : Gnd X) (hx : SE X n sc names x e) (hk : sc.names.lookup ("tuple" : Str) = some .globalImplicit) (hs : notStar x = true) :
    SE X n sc names (.Call (.Name "tuple" p) [x] [] pos) (.bi .tuple1 [e]) := by
  intro env A s Φ ρ σ Q he eo hroom ok F h
  refine call_blt1 (P := fun d σ => biT .tuple1 [d] fun r => Q r σ) G (f := "tuple") (fv := .type "tuple") (by simp [bNames]) hx hk hs he eo hroom ok F h ?_
  intro v s₁ d σ₁ Φ₁ st r q
  replace q := bi_of q
  obtain ⟨_, hr, q⟩ := q
  cases hr with
  | tuple1 ds hlen =>
    obtain ⟨a, rfl⟩ := r.lst_ref
    obtain ⟨vs, hl, ra, _⟩ := r.isList st.ok
    have hlv := ra.length
    simp only [Array.length_toList] at hlv
    refine call_tuple_list hl (fun h' hk' => ?_) (by unfold sizeLine; (first | with_reducible exact oo9 ‹_› ‹_› | omega))
    have st' := st.trans (Step.keeps (tk := s₁.toks) st.ok hk')
    have := made_tup (s₁ := { s₁ with heap := h' }) (vs := vs.toList) st' ra q
    simpa using this

end
noncomputable def E.lenM (i : Nat) : E := fun xx xx ρ σ Q => (ρ.getD i .unb).onMt fun ds => ds.length ≤ 2 ^ 20 ∧ Q (.int ds.length) σ
section
variable {X : Cx} {n : Nat} {sc : Scope} {names : List Str}
theorem SE_lenM {i : Nat} {x : Str} {p px pos : Pos} (G : Gnd X) (hi : names[i]? = some x) (ha : accS sc x = true) (hp : plainName x = true) (hk : sc.names.lookup ("len" : Str) = some .globalImplicit) :
    SE X n sc names (.Call (.Name "len" p) [.Name x px] [] pos) (.lenM i) := by
  intro env A s Φ ρ σ Q he eo hroom ok F h
  obtain ⟨ds, eds, hlen, h⟩ := MV.mt_of h
  refine Call_Name rfl ?_
  refine name_blt G ok eo (by rw [Env.kindOf_sc he]; exact hk) (v := .builtin "len") (by simp [bNames]) (by decide) ?_
  refine PyProof.Rows.callWith_builtin1 ?_ rfl rfl
  show wpAny _ A (spliced ((false, eval (.Name x px) env) :: [])) _ _ s
  obtain ⟨m, cm, μ, F⟩ := F
  obtain ⟨a, vs, hμ, hlk, ⟨z, hpl⟩, hrd⟩ := F.own hi (acc_of he ha) eds
  simp only [plainName, Bool.and_eq_true, Bool.not_eq_true'] at hp
  refine Calls.spliced_cons (load_var eo F (acc_of he ha) hlk hp.1 hp.2 ?_)
  refine Calls.spliced_nil ?_
  have e := hrd.length
  simp only [Array.length_toList] at e
  refine Calls.call_len_list ⟨_, hpl, rfl, _, rfl⟩ (by omega) ?_
  exact ⟨_, σ, Φ, Step.tok ok _, .int _ _, by rw [e]; exact h⟩
end
structure CA where
  C : Addr
  init : Addr
  step : Addr
  back : Addr
  standing : Addr
  places : Addr
  left : Addr
  seats : Addr
noncomputable def attrNames : List Str := ["many", "chairs", "enough", "rows", "states"]
structure CountIs (X : Cx) (c : CA) : Prop where
  mg : X.mg "Count" = some (.ref c.C)
  made : MakeAt X c.C c.init
  attr : ∀ x ∈ attrNames, AttrOk X c.C x
  step : MethAt X c.C "step" c.step
  places : MethAt X c.C "places" c.places
  left : MethAt X c.C "left" c.left
  seats : MethAt X c.C "seats" c.seats
  standing : MethAt X c.C "standing" c.standing
  back : MethAt X c.C "back" c.back
  most : (∃ t, X.mg "MOST_CANDIDATES" = some (.int 12 t)) ∧ (∃ t, X.mg "MOST_BALLOTS" = some (.int 40 t)) ∧ ∃ t, X.mg "MOST_WEIGHT" = some (.int 1000000000 t)
noncomputable def methAt (q : Program) (k j : Nat) : Stmt := match stmtAt q k with
  | .ClassDef _ _ _ body _ _ _ _ _ _ _ => body.getD j (.Pass ⟨0, 0, 0, 0⟩)
  | st => st
noncomputable def fnArgs : Stmt → Arguments
  | .FunctionDef _ args _ _ _ _ _ _ _ _ => args
  | _ => { posonlyargs := [], args := [], vararg := none, kwonlyargs := [], kw_defaults := [], kwarg := none, defaults := [] }

set_option tactic.hygienic true in
theorem fnAt_of {X : Cx} {K : Frag} (hK : K.In X.g) {a : Addr} {o : Obj} {fd : FuncData} {sc : Scope} {ps : List Str} {body : List Stmt} (h1 : K.lookup a = some o) (h2 : o.data = .func fd) (h3 : fd.scope = sc) (h4 : fd.body = .stmts body)
    (h5 : fd.globals = mainGlobals) (h6 : fd.builtins = builtinsNs) (h7 : fd.closure = []) (h8 : codeIn K fd.code fd.qualname = true) (h9 : plainParams fd.params ps = true) (h10 : fd.defaults = .none) : FnAt X a sc ps body := by
  refine ⟨o, fd, hK _ _ h1, h2, h3, h4, h5, h6, h7, codeRec_of hK h8, fun vals hv => ?_⟩
  unfold plainParams at h9
  split at h9
  · rename_i as _ _ hpp
    simp only [Bool.and_eq_true, beq_iff_eq, decide_eq_true_eq] at h9
    obtain ⟨rfl, nd⟩ := h9
    exact bind_plain hpp h10 nd hv
  · cases h9
theorem mg_of {K : Frag} {h : Heap} {mg : Str → Option Value} (hK : K.In h) (G : h.Ns mainGlobals mg) {o : Obj} {es : Array DictEntry} {ep : Nat} (h1 : K.lookup mainGlobals = some o) (h2 : o.data = .dict es ep) {x : Str} {v : Option Value} (h3 : nsFind es x = v) : mg x = v := by
  obtain ⟨o', es', ep', ho, hd, _, hm⟩ := G
  rw [hK _ _ h1] at ho
  cases ho
  rw [h2] at hd
  cases hd
  rw [← hm x, h3]
end
noncomputable def Sg.or (σ σ₁ : Sg) : Sg := fun b => match σ b with
  | some t => some t
  | none => σ₁ b
noncomputable def E.frame (e : E) : E := fun X n ρ σ Q => e X n ρ empS fun d σ₁ => Q d (σ.or σ₁)
section
variable {X : Cx} {n : Nat} {sc : Scope} {names : List Str}
end
noncomputable def M.is_whole : List S :=
  [.ret (.and_ (.bi .isint [(.var 0)]) (.and_ (.not_ (.bi .isbool [(.var 0)])) (.cmp2 .le .le (.var 1) (.var 0) (.var 2))))]
noncomputable def M.is_row_b1 : List S :=
  [.iff (.or_ (.not_ (.call "is_whole" [(.var 3), (.cst (.int 0)), (.bin .sub (.var 1) (.cst (.int 1)))])) (.cmp .in_ (.var 3) (.lst (.upto (.var 0) (.var 2)))))
      [.ret (.cst (.bool false))]
      []]
noncomputable def M.is_row : List S :=
  [.iff (.not_ (.bi .islist [(.var 0)]))
      [.ret (.cst (.bool false))]
      [],
    .for_ [2, 3] (.enum (.var 0)) M.is_row_b1,
    .ret (.cst (.bool true))]
noncomputable def M.is_ballot : List S :=
  [.iff (.or_ (.not_ (.bi .istuple [(.var 0)])) (.cmp .ne (.bi .len [(.var 0)]) (.cst (.int 2))))
      [.ret (.cst (.bool false))]
      [],
    .ret (.and_ (.call "is_whole" [(.idx (.var 0) (.cst (.int 0))), (.cst (.int 1)), (.glob "MOST_WEIGHT")]) (.call "is_row" [(.idx (.var 0) (.cst (.int 1))), (.var 1)]))]
noncomputable def M.need_vote_b1 : List S :=
  [.iff (.not_ (.call "is_ballot" [(.var 3), (.var 0)]))
      [.dead]
      []]
noncomputable def M.need_vote : List S :=
  [.iff (.not_ (.call "is_whole" [(.var 0), (.cst (.int 1)), (.glob "MOST_CANDIDATES")]))
      [.dead]
      [],
    .iff (.not_ (.call "is_whole" [(.var 2), (.cst (.int 1)), (.var 0)]))
      [.dead]
      [],
    .iff (.cmp .gt (.bi .len [(.var 1)]) (.glob "MOST_BALLOTS"))
      [.dead]
      [],
    .for_ [3] (.seq (.var 1)) M.need_vote_b1]
noncomputable def M.parts_b1 : List S :=
  [.asg 4 (.bin .add (.var 4) (.var 6)),
    .asg 7 (.cst (.int 0)),
    .iff (.cmp .gt (.var 2) (.cst (.int 0)))
      [.asg 7 (.bin .sub (.bin .fdiv (.bin .mul (.var 4) (.var 1)) (.var 2)) (.var 5))]
      [],
    .app 3 (.var 7),
    .asg 5 (.bin .add (.var 5) (.var 7))]
noncomputable def M.parts : List S :=
  [.asg 2 (.bi .sum [(.var 0)]),
    .asgM 3 (.disp []),
    .asg 4 (.cst (.int 0)),
    .asg 5 (.cst (.int 0)),
    .for_ [6] (.seq (.var 0)) M.parts_b1,
    .freeze 3,
    .ret (.var 3)]
noncomputable def M.Count_init_e1 : E :=
  (.bi .tuple1 [(.idx (.var 4) (.cst (.int 1)))])
noncomputable def M.Count_init_e2 : E :=
  (.idx (.var 4) (.cst (.int 0)))
noncomputable def M.Count_init : List S :=
  [.expr (.call "need_vote" [(.var 1), (.var 2), (.var 3)]),
    .setA (.var 0) "many" (.var 1),
    .setA (.var 0) "chairs" (.var 3),
    .setA (.var 0) "enough" (.call "quota" [(.var 2), (.var 3)]),
    .setA (.var 0) "rows" (.lst (.comp M.Count_init_e1 [4] (.seq (.var 2)) none)),
    .setA (.var 0) "states" (.track (.disp [(.tupE [(.lst (.ofSeq (.range (.var 1)))), (.lst (.comp M.Count_init_e2 [4] (.seq (.var 2)) none)), (.lst (.disp []))])]))]
noncomputable def M.Count_step_p1 : E :=
  (.cmp .ne (.var 17) (.var 14))
noncomputable def M.Count_step_e1 : E :=
  (.var 17)
noncomputable def M.Count_step_p2 : E :=
  (.cmp .eq (.idx (.var 1) (.var 15)) (.var 14))
noncomputable def M.Count_step_e2 : E :=
  (.var 15)
noncomputable def M.Count_step_e3 : E :=
  (.idx (.var 11) (.var 15))
noncomputable def M.Count_step_b1 : List S :=
  [.setI 8 (.var 15) (.borrow [8] (.bin .sub (.idx (.var 8) (.var 15)) (.var 16))),
    .iff (.cmp .gt (.var 16) (.cst (.int 0)))
      [.app 9 (.tupE [(.var 15), (.var 16)])]
      []]
noncomputable def M.Count_step : List S :=
  [.unp [10, 11, 12] (.last (.attr (.var 0) "states")),
    .asg 1 (.meth (.var 0) "places"),
    .asg 2 (.call "held" [(.attr (.var 0) "many"), (.var 1), (.var 11)]),
    .asg 3 (.call "deed_of" [(.var 2), (.var 10), (.bin .sub (.attr (.var 0) "chairs") (.bi .len [(.var 12)])), (.attr (.var 0) "enough")]),
    .iff (.cmp .is_ (.var 3) (.cst .none))
      [.ret (.cst .none)]
      [],
    .unp [13, 14] (.var 3),
    .asg 4 (.lst (.comp M.Count_step_e1 [17] (.seq (.var 10)) (some M.Count_step_p1))),
    .iff (.cmp .eq (.var 13) (.cst (.str "out")))
      [.expr (.appT (.attr (.var 0) "states") (.tupE [(.var 4), (.var 11), (.var 12)])),
      .ret (.var 3)]
      [],
    .asg 5 (.lst (.comp M.Count_step_e2 [15] (.range (.bi .len [(.var 1)])) (some M.Count_step_p2))),
    .asg 6 (.bi .min2 [(.attr (.var 0) "enough"), (.idx (.var 2) (.var 14))]),
    .asg 7 (.call "parts" [(.lst (.comp M.Count_step_e3 [15] (.seq (.var 5)) none)), (.var 6)]),
    .asgM 8 (.ofSeq (.seq (.var 11))),
    .asgM 9 (.disp []),
    .for_ [15, 16] (.zip (.var 5) (.var 7)) M.Count_step_b1,
    .freeze 8,
    .freeze 9,
    .expr (.appT (.attr (.var 0) "states") (.tupE [(.var 4), (.var 8), (.lst (.cat (.var 12) (.lst (.disp [(.tupE [(.var 14), (.var 9)])]))))])),
    .ret (.var 3)]
noncomputable def M.Count_places_e1 : E :=
  (.call "place_of" [(.var 2), (.var 1)])
noncomputable def M.Count_places : List S :=
  [.asg 1 (.idx (.last (.attr (.var 0) "states")) (.cst (.int 0))),
    .ret (.lst (.comp M.Count_places_e1 [2] (.seq (.attr (.var 0) "rows")) none))]
noncomputable def M.Count_left : List S :=
  [.ret (.lst (.ofSeq (.seq (.idx (.last (.attr (.var 0) "states")) (.cst (.int 1))))))]
noncomputable def M.Count_seats_e1 : E :=
  (.tupE [(.var 1), (.lst (.ofSeq (.seq (.var 2))))])
noncomputable def M.Count_seats : List S :=
  [.ret (.lst (.comp M.Count_seats_e1 [1, 2] (.seq (.idx (.last (.attr (.var 0) "states")) (.cst (.int 2)))) none))]
noncomputable def M.rounds_of_b1 : List S :=
  [.asg 6 (.meth (.var 3) "places"),
    .asg 7 (.meth (.var 3) "left"),
    .asg 8 (.meth (.var 3) "step"),
    .asg 5 (.cmp .isn (.var 8) (.cst .none)),
    .iff (.var 5)
      [.app 4 (.tupE [(.idx (.var 8) (.cst (.int 0))), (.idx (.var 8) (.cst (.int 1))), (.var 6), (.var 7)])]
      []]
noncomputable def M.rounds_of : List S :=
  [.asg 3 (.make "Count" [(.var 0), (.var 1), (.var 2)]),
    .asgM 4 (.disp []),
    .asg 5 (.cst (.bool true)),
    .while_ (.var 5) M.rounds_of_b1,
    .freeze 4,
    .ret (.var 4)]
noncomputable def M.seats_of_b1 : List S :=
  [.pass]
noncomputable def M.seats_of : List S :=
  [.asg 3 (.make "Count" [(.var 0), (.var 1), (.var 2)]),
    .while_ (.cmp .isn (.meth (.var 3) "step") (.cst .none)) M.seats_of_b1,
    .ret (.meth (.var 3) "seats")]

namespace PV
noncomputable def A (ws : List Int) (j : Nat) : Int := (ws.take j).sum
noncomputable def G (ws : List Int) (s : Int) (j : Nat) : Int := if 0 < ws.sum then (A ws j * s).fdiv ws.sum else 0
noncomputable def partsV (ws : List Int) (s : Int) : List Int := (List.range ws.length).map fun j => G ws s (j + 1) - G ws s j

theorem A_succ {ws : List Int} {j : Nat} (hj : j < ws.length) : A ws (j + 1) = A ws j + ws[j] := by
  unfold A
  rw [List.take_succ_eq_append_getElem hj, List.sum_append]
  simp
theorem sum_nn {ws : List Int} (h : ∀ w ∈ ws, 0 ≤ w) : 0 ≤ ws.sum := by
  induction ws with
  | nil => simp
  | cons w ws ih =>
    simp only [List.sum_cons]
    have := h w (by simp)
    have := ih fun x hx => h x (by simp [hx])
    omega
theorem A_nn {ws : List Int} (h : ∀ w ∈ ws, 0 ≤ w) (j : Nat) : 0 ≤ A ws j := sum_nn fun w hw => h w (List.mem_of_mem_take hw)
theorem A_le {ws : List Int} (h : ∀ w ∈ ws, 0 ≤ w) (j : Nat) : A ws j ≤ ws.sum := by
  have e : ws.sum = (ws.take j).sum + (ws.drop j).sum := by rw [← List.sum_append, List.take_append_drop]
  have := sum_nn fun w (hw : w ∈ ws.drop j) => h w (List.mem_of_mem_drop hw)
  unfold A
  omega

theorem sum_le {ws : List Int} {b : Int} (h : ∀ w ∈ ws, w ≤ b) : ws.sum ≤ ws.length * b := by
  induction ws with
  | nil => simp
  | cons w ws ih =>
    simp only [List.sum_cons, List.length_cons]
    have h1 := h w (by simp)
    have h2 := ih fun x hx => h x (by simp [hx])
    have : ((ws.length + 1 : Nat) : Int) * b = ws.length * b + b := by
      rw [Int.natCast_add, Int.add_mul]; simp
    omega

set_option tactic.hygienic true in
theorem G_bounds {ws : List Int} {s : Int} (hw : ∀ w ∈ ws, 0 ≤ w) (hs : 0 ≤ s) (hs' : s ≤ ws.sum) {j : Nat} (hj : j < ws.length) :
    0 ≤ G ws s (j + 1) - G ws s j ∧ G ws s (j + 1) - G ws s j ≤ ws[j] := by
  have hwj := hw ws[j] (List.getElem_mem hj)
  unfold G
  split
  · rename_i ht
    rw [A_succ hj]
    rw [Int.fdiv_eq_ediv_of_nonneg _ (by first | decide | with_reducible exact Int.le_of_lt ‹_› | omega), Int.fdiv_eq_ediv_of_nonneg _ (by first | decide | with_reducible exact Int.le_of_lt ‹_› | omega)]
    have e1 : (A ws j + ws[j]) * s = A ws j * s + ws[j] * s := Int.add_mul ..
    have h1 : 0 ≤ ws[j] * s := Int.mul_nonneg hwj hs
    have h2 : ws[j] * s ≤ ws[j] * ws.sum := Int.mul_le_mul_of_nonneg_left hs' hwj
    constructor
    · have : A ws j * s / ws.sum ≤ (A ws j + ws[j]) * s / ws.sum := Int.ediv_le_ediv ht (by first | decide | omega)
      omega
    · have : (A ws j + ws[j]) * s / ws.sum ≤ (A ws j * s + ws[j] * ws.sum) / ws.sum := Int.ediv_le_ediv ht (by first | decide | omega)
      rw [Int.add_mul_ediv_right _ _ (by first | decide | omega)] at this
      omega
  · omega
end PV
section
variable {X : Cx} {n : Nat} {σ : Sg}
noncomputable def HasWhole3 (X : Cx) : Prop := ∀ {n : Nat} {σ : Sg} {i lo hi : Int} {Q : D → Sg → Prop}, lo ≤ i → i ≤ hi → Q (.bool true) σ → CallSem X (n + 1) "is_whole" [.int i, .int lo, .int hi] σ Q

noncomputable def HasIsBallot (X : Cx) : Prop := ∀ {n : Nat} {σ : Sg} {k : Nat} {b : Int × List Int} {Q : D → Sg → Prop}, k ≤ 100 → 1 ≤ b.1 → b.1 ≤ 1000000000 → RowOk k b.2 → Q (.bool true) σ → CallSem X (n + 1 + 1 + 1) "is_ballot" [.tup [.int b.1, .lst (b.2.map D.int)], .int k] σ Q

theorem need_vote_spec (hW : HasWhole3 X) (hB : HasIsBallot X) (hG1 : ∃ t, X.mg "MOST_CANDIDATES" = some (.int 12 t)) (hG2 : ∃ t, X.mg "MOST_BALLOTS" = some (.int 40 t)) {k : Nat} {B : List (Int × List Int)} {s : Int} {Q : D → Sg → Prop} (hk0 : 1 ≤ k) (hk : k ≤ 12) (hs0 : 1 ≤ s) (hs : s ≤ k) (hBal : Bal k B) (q : Q .none σ) :
    mExecs X (n + 1 + 1 + 1) M.need_vote [.val (.int k), .val (.lst (dB B)), .val (.int s), .unb] σ (fun fl xx σ' => (∀ b, σ b ≠ none → σ' b ≠ none) ∧ Q (flD fl) σ') := by
  obtain ⟨t1, hG1⟩ := hG1
  obtain ⟨t2, hG2⟩ := hG2
  have hlen := hBal.len
  have hdl : (dB B).length = B.length := by simp [dB]
  simp only [M.need_vote]
  rw [ms_cons]
  simp only [ev_nil, ev_cons, E.cst, E.var, E.not_, E.call, S.iff, q_val, cond_bool, flD, g_z, ms_nil]
  refine ⟨_, t1, hG1, ?_⟩
  refine hW (by first | decide | with_reducible exact Int.le_trans ‹_› ‹_› | omega) (by first | decide | omega) ?_
  simp only [not_bool, if_false, Bool.not_true, Bool.false_eq_true]
  rw [ms_cons]
  simp only [ev_nil, ev_cons, E.cst, E.var, E.not_, E.call, S.iff, q_val, cond_bool, g_z, g_s, ms_nil]
  refine hW (by first | decide | with_reducible assumption | omega) (by first | decide | with_reducible assumption | omega) ?_
  simp only [not_bool, if_false, Bool.not_true, Bool.false_eq_true]
  rw [ms_cons]
  simp only [ev_nil, ev_cons, E.var, E.cmp, E.bi, S.iff, q_val, cond_bool, f_len, g_z, g_s, ms_nil]
  refine ⟨by first | decide | with_reducible exact oo9 ‹_› ‹_› | omega, _, t2, hG2, ?_⟩
  simp only [c_gt, decide_eq_true_eq]
  rw [if_neg (by first | decide | omega)]
  rw [ms_cons]
  simp only [E.var, It.seq, S.for_, q_val, q_one, g_z, g_s, List.length_cons, List.length_nil, Nat.zero_add, ms_nil]
  refine for_inv (fun j ρ σ' => σ' = σ ∧ ∃ (a : MV), ρ = [.val (.int k), .val (.lst (dB B)), .val (.int s), a]) ?_ ?_ ?_
  · exact ⟨rfl, .unb, rfl⟩
  · rintro j hj ρ σ' ⟨rfl, a, rfl⟩
    simp only [List.length_map, hdl] at hj
    have hb := List.getElem_mem hj
    have hw := hBal.wt _ hb
    simp only [List.getElem_map, dB, M.need_vote_b1]
    rw [ms_cons]
    simp only [ev_nil, ev_cons, E.var, E.not_, E.call, S.iff, q_val, cond_bool, setAll, g_z, g_s, List.set_cons_zero, List.set_cons_succ, ms_nil]
    refine hB (by first | decide | with_reducible exact oo3 ‹_› | omega) hw.1 hw.2 (hBal.row _ hb) ?_
    simp only [not_bool, true_and, if_false, Bool.not_true, Bool.false_eq_true]
    exact ⟨_, rfl⟩
  · rintro ρ σ' ⟨rfl, a, rfl⟩
    simp only [keepS, true_and]
    exact q
noncomputable def HasNeed (X : Cx) : Prop := ∀ {n : Nat} {σ : Sg} {k : Nat} {B : List (Int × List Int)} {s : Int} {Q : D → Sg → Prop}, 1 ≤ k → k ≤ 12 → 1 ≤ s → s ≤ k → Bal k B → Q .none σ → CallSem X (n + 1 + 1 + 1 + 1) "need_vote" [.int k, .lst (dB B), .int s] σ Q

set_option tactic.hygienic true in
theorem parts_spec {ws : List Int} {s : Int} {Q : D → Sg → Prop} (hl : ws.length ≤ 1000) (hw : ∀ w ∈ ws, 0 ≤ w) (hs : ws.sum < 2 ^ 62) (q : Q (.lst ((PV.partsV ws s).map D.int)) σ) :
    mExecs X n M.parts [.val (.lst (ws.map D.int)), .val (.int s), .unb, .unb, .unb, .unb, .unb, .unb] σ (fun fl xx σ' => (∀ b, σ b ≠ none → σ' b ≠ none) ∧ Q (flD fl) σ') := by
  simp only [M.parts]
  rw [ms_cons]
  simp only [ev_nil, ev_cons, E.var, E.bi, S.asg, q_val, f_sum, flD, g_z, List.set_cons_zero, List.set_cons_succ]
  rw [ms_cons]
  simp only [ev_nil, L.disp, S.asgM, List.set_cons_zero, List.set_cons_succ, List.length_nil]
  refine ⟨by first | decide | omega, ?_⟩
  rw [ms_cons]
  simp only [E.cst, S.asg, List.set_cons_zero, List.set_cons_succ]
  rw [ms_cons]
  simp only [E.cst, S.asg, List.set_cons_zero, List.set_cons_succ]
  rw [ms_cons]
  simp only [E.var, It.seq, S.for_, q_val, q_one, g_z, List.length_cons, List.length_nil, Nat.zero_add]
  refine for_inv (fun j ρ σ' => σ' = σ ∧ ∃ (a b : MV), ρ = [.val (.lst (ws.map D.int)), .val (.int s), .val (.int ws.sum), .mt (((List.range j).map fun j => PV.G ws s (j + 1) - PV.G ws s j).map D.int), .val (.int (PV.A ws j)), .val (.int (PV.G ws s j)), a, b]) ?_ ?_ ?_
  · refine ⟨rfl, .unb, .unb, ?_⟩
    simp [PV.A, PV.G]
  · rintro j hj ρ σ' ⟨rfl, a, b, rfl⟩
    simp only [List.length_map] at hj
    have hA := PV.A_succ hj
    have a0 := PV.A_nn hw (j + 1)
    have a1 := PV.A_le hw (j + 1)
    simp only [List.getElem_map, M.parts_b1]
    have fin : ∀ p, p = PV.G ws s (j + 1) - PV.G ws s j → mExecs X n [.app 3 (.var 7), .asg 5 (.bin .add (.var 5) (.var 7))]
        [.val (.lst (ws.map D.int)), .val (.int s), .val (.int ws.sum), .mt (((List.range j).map fun j => PV.G ws s (j + 1) - PV.G ws s j).map D.int), .val (.int (PV.A ws (j + 1))), .val (.int (PV.G ws s j)), .val (.int ws[j]), .val (.int p)] σ'
        fun fl ρ' σ'' => match fl with
          | .next => σ'' = σ' ∧ ∃ (a b : MV), ρ' = [.val (.lst (ws.map D.int)), .val (.int s), .val (.int ws.sum), .mt (((List.range (j + 1)).map fun j => PV.G ws s (j + 1) - PV.G ws s j).map D.int), .val (.int (PV.A ws (j + 1))), .val (.int (PV.G ws s (j + 1))), a, b]
          | .ret d => (∀ b, σ' b ≠ none → σ'' b ≠ none) ∧ Q (flD (.ret d)) σ'' := by
      rintro p rfl
      rw [ms_cons]
      simp only [E.var, S.app, q_val, q_mt, flD, g_z, g_s, List.set_cons_zero, List.set_cons_succ, List.length_map]
      refine ⟨by simp; (first | with_reducible exact oow ‹_› ‹_› | omega), ?_⟩
      rw [ms_cons]
      simp only [E.var, E.bin, S.asg, q_val, b_add, g_z, g_s, List.set_cons_zero, List.set_cons_succ, true_and, ms_nil]
      have e : PV.G ws s j + (PV.G ws s (j + 1) - PV.G ws s j) = PV.G ws s (j + 1) := by first | decide | omega
      have e2 : ((List.range (j + 1)).map fun j => PV.G ws s (j + 1) - PV.G ws s j).map D.int = ((List.range j).map fun j => PV.G ws s (j + 1) - PV.G ws s j).map D.int ++ [.int (PV.G ws s (j + 1) - PV.G ws s j)] := by simp [List.range_succ]
      rw [e, e2]
      exact ⟨_, _, rfl⟩
    rw [ms_cons]
    simp only [E.var, E.bin, S.asg, q_val, b_add, setAll, g_z, g_s, List.set_cons_zero, List.set_cons_succ]
    rw [← hA]
    rw [ms_cons]
    simp only [E.cst, S.asg, List.set_cons_zero, List.set_cons_succ]
    rw [ms_cons]
    simp only [E.cst, E.var, E.cmp, S.iff, q_val, c_gt, cond_bool, g_z, g_s, decide_eq_true_eq, ms_nil]
    split
    · rename_i ht
      rw [ms_cons]
      simp only [E.var, E.bin, S.asg, q_val, b_sub, b_mul, b_div, g_z, g_s, List.set_cons_zero, List.set_cons_succ, ms_nil]
      refine ⟨.inl ⟨by first | decide | omega, by first | decide | omega⟩, by first | decide | omega, ⟨by first | decide | omega, by first | decide | omega⟩, ?_⟩
      exact fin _ (by simp [PV.G, ht])
    · rename_i ht
      exact fin 0 (by simp [PV.G, ht])
  · rintro ρ σ' ⟨rfl, a, b, rfl⟩
    rw [List.length_map, List.length_map]
    rw [ms_cons]
    simp only [S.freeze, q_mt, g_z, g_s, List.set_cons_zero, List.set_cons_succ]
    rw [ms_cons]
    simp only [E.var, S.ret, q_val, keepS, g_z, g_s, true_and, ms_nil]
    exact q
noncomputable def HasParts (X : Cx) : Prop := ∀ {n : Nat} {σ : Sg} {ws : List Int} {s : Int} {Q : D → Sg → Prop}, ws.length ≤ 1000 → (∀ w ∈ ws, 0 ≤ w) → ws.sum < 2 ^ 62 → Q (.lst ((PV.partsV ws s).map D.int)) σ → CallSem X (n + 1) "parts" [.lst (ws.map D.int), .int s] σ Q
end
structure St where
  std : List Int
  lft : List Int
  fil : List (Int × List (Int × Int))
noncomputable def dBe (bs : List (Int × Int)) : List D := bs.map fun p => .tup [.int p.1, .int p.2]
noncomputable def dFil (f : List (Int × List (Int × Int))) : List D := f.map fun x => .tup [.int x.1, .lst (dBe x.2)]
noncomputable def dSt (s : St) : D := .tup [.lst (s.std.map D.int), .lst (s.lft.map D.int), .lst (dFil s.fil)]
noncomputable def fieldsOf (k : Nat) (B : List (Int × List Int)) (s : Int) (b : Addr) : List (Str × D) :=
  [("many", .int k), ("chairs", .int s), ("enough", .int (quotaV B s)), ("rows", .lst (B.map fun x => .tup (x.2.map D.int))), ("states", .ref b)]
structure CntAt (c : CA) (σ : Sg) (a dx b : Addr) (k : Nat) (B : List (Int × List Int)) (s : Int) (sts : List St) : Prop where
  ins : σ a = some (.inst c.C dx)
  ns : σ dx = some (.ns (fieldsOf k B s b))
  lst : σ b = some (.list (sts.map dSt))

section
variable {k : Nat} {B : List (Int × List Int)} {s : Int} {b : Addr}
theorem lk_many : (fieldsOf k B s b).lookup ("many" : Str) = some (D.int k) := by kernel_rfl
theorem lk_chairs : (fieldsOf k B s b).lookup ("chairs" : Str) = some (.int s) := by kernel_rfl
theorem lk_enough : (fieldsOf k B s b).lookup ("enough" : Str) = some (.int (quotaV B s)) := by kernel_rfl
theorem lk_rows : (fieldsOf k B s b).lookup ("rows" : Str) = some (.lst (B.map fun x => .tup (x.2.map D.int))) := by kernel_rfl
theorem lk_states : (fieldsOf k B s b).lookup ("states" : Str) = some (.ref b) := by kernel_rfl
theorem lk_no {x : Str} (h : (x == ("many" : Str) || x == ("chairs" : Str) || x == ("enough" : Str) || x == ("rows" : Str) || x == ("states" : Str)) = false) : (fieldsOf k B s b).lookup x = none := by
  simp only [Bool.or_eq_false_iff] at h
  obtain ⟨⟨⟨⟨h1, h2⟩, h3⟩, h4⟩, h5⟩ := h
  simp only [fieldsOf, List.lookup, h1, h2, h3, h4, h5]
theorem mem_attr {x : Str} (h : attrNames.contains x = true) : x ∈ attrNames := by simpa using h
end
section
variable {X : Cx} {n : Nat} {σ : Sg} {c : CA} {a dx b : Addr} {k : Nat} {B : List (Int × List Int)} {s : Int} {sts : List St}
theorem x_attr (hc : CountIs X c) (h : CntAt c σ a dx b k B s sts) {name : Str} {d : D} {Q : D → Prop} (hn : attrNames.contains name = true) (hl : (fieldsOf k B s b).lookup name = some d) (q : Q d) :
    ∃ a' C dx fs d, D.ref a = .ref a' ∧ σ a' = some (.inst C dx) ∧ σ dx = some (.ns fs) ∧ AttrOk X C name ∧ fs.lookup name = some d ∧ Q d := ⟨a, c.C, dx, _, d, rfl, h.ins, h.ns, hc.attr name (mem_attr hn), hl, q⟩
theorem x_last (h : CntAt c σ a dx b k B s sts) {st : St} {Q : D → Prop} (hs : sts.getLast? = some st) (hl : sts.length ≤ 1000) (q : Q (dSt st)) : ∃ a' ds d, D.ref b = .ref a' ∧ σ a' = some (.list ds) ∧ ds.length ≤ 2 ^ 20 ∧ ds.getLast? = some d ∧ Q d :=
  ⟨b, _, _, rfl, h.lst, by simp; (first | with_reducible exact oo3 ‹_› | omega), by rw [List.getLast?_map, hs]; rfl, q⟩

theorem dBe_len (bs : List (Int × Int)) : (dBe bs).length = bs.length := by simp [dBe]
theorem dFil_len (f : List (Int × List (Int × Int))) : (dFil f).length = f.length := by simp [dFil]

theorem left_spec (hc : CountIs X c) (h : CntAt c σ a dx b k B s sts) {st : St} {Q : D → Sg → Prop} (hs : sts.getLast? = some st) (hl : sts.length ≤ 1000) (hll : st.lft.length ≤ 1000) (q : Q (.lst (st.lft.map D.int)) σ) :
    mExecs X n M.Count_left [.val (.ref a)] σ (fun fl xx σ' => (∀ b, σ b ≠ none → σ' b ≠ none) ∧ Q (flD fl) σ') := by
  simp only [M.Count_left]
  rw [ms_cons]
  simp only [E.cst, E.var, E.lst, E.idx, L.ofSeq, It.seq, S.ret, q_val, E.attr, E.last, keepS, flD, g_z, true_and, ms_nil]
  refine x_attr hc h rfl lk_states (x_last h hs hl ?_)
  simp only [dSt]
  simp only [q_one, t_1, List.length_map, map_headD]
  exact ⟨by first | decide | with_reducible exact oo3 ‹_› | omega, q⟩

theorem placeT_spec {row st : List Int} {Q : D → Sg → Prop} (q : Q (dO (placeV row st)) σ) :
    mExecs X n M.place [.val (.tup (row.map D.int)), .val (.lst (st.map D.int)), .unb] σ (fun fl xx σ' => (∀ b, σ b ≠ none → σ' b ≠ none) ∧ Q (flD fl) σ') := by
  simp only [M.place]
  rw [ms_cons]
  simp only [E.var, It.seq, S.for_, q_val, q_onet, flD, g_z, List.length_cons, List.length_nil, Nat.zero_add]
  refine for_inv (fun j ρ σ' => σ' = σ ∧ ∃ (a : MV), ρ = [.val (.tup (row.map D.int)), .val (.lst (st.map D.int)), a] ∧ ∀ x ∈ row.take j, decide (x ∈ st) = false) ?_ ?_ ?_
  · exact ⟨rfl, .unb, rfl, by simp⟩
  · rintro j hj ρ σ' ⟨rfl, a, rfl, hx⟩
    simp only [List.length_map] at hj
    simp only [List.getElem_map, M.place_b]
    rw [ms_cons]
    simp only [E.var, E.cmp, S.iff, q_val, cond_bool, setAll, g_z, g_s, List.set_cons_zero, List.set_cons_succ, true_and, decide_eq_false_iff_not, ms_nil]
    simp only [c_in, any_int]
    refine ⟨rfl, ok_ints 8 st, ?_⟩
    by_cases h : row[j] ∈ st
    · simp only [h, decide_true, if_true]
      rw [ms_cons]
      simp only [E.var, S.ret, q_val, keepS, g_z, g_s, true_and, ms_nil]
      have : placeV row st = some row[j] := find_at hj hx (by simpa using h)
      rw [this] at q
      exact q
    · simp only [h, decide_false, Bool.false_eq_true, if_false]
      refine ⟨_, rfl, fun x hx' => ?_⟩
      rw [← List.take_append_getElem hj] at hx'
      rcases List.mem_append.mp hx' with hx' | hx'
      · simpa using hx x hx'
      · rw [List.mem_singleton.mp hx']; exact h
  · rintro ρ σ' ⟨rfl, a, rfl, hx⟩
    simp only [List.length_map, List.take_length] at hx
    rw [ms_cons]
    simp only [E.cst, S.ret, keepS, true_and, ms_nil]
    have : placeV row st = none := find_not hx
    rw [this] at q
    exact q
noncomputable def HasPlaceT (X : Cx) : Prop := ∀ {n : Nat} {σ : Sg} {row st : List Int} {Q : D → Sg → Prop}, Q (dO (placeV row st)) σ → CallSem X (n + 1) "place_of" [.tup (row.map D.int), .lst (st.map D.int)] σ Q

noncomputable def placesF (B : List (Int × List Int)) (std : List Int) : List (Option Int) := B.map fun x => placeV x.2 std

theorem places_spec (hP : HasPlaceT X) (hc : CountIs X c) (h : CntAt c σ a dx b k B s sts) {st : St} {Q : D → Sg → Prop} (hs : sts.getLast? = some st) (hl : sts.length ≤ 1000) (hB : B.length ≤ 1000) (q : Q (.lst ((placesF B st.std).map dO)) σ) :
    mExecs X (n + 1) M.Count_places [.val (.ref a), .unb, .unb] σ (fun fl xx σ' => (∀ b, σ b ≠ none → σ' b ≠ none) ∧ Q (flD fl) σ') := by
  simp only [M.Count_places]
  rw [ms_cons]
  simp only [E.cst, E.var, E.idx, S.asg, q_val, E.attr, E.last, flD, g_z, List.set_cons_zero, List.set_cons_succ]
  refine x_attr hc h rfl lk_states (x_last h hs hl ?_)
  simp only [dSt]
  simp only [t_0]
  rw [ms_cons]
  simp only [E.var, E.lst, L.comp, It.seq, S.ret, q_val, E.attr, g_z, List.length_cons, List.length_nil, Nat.zero_add, ms_nil]
  refine x_attr hc h rfl lk_rows ?_
  simp only [q_one, List.length_map]
  refine ⟨by simp; (first | with_reducible exact oo3 ‹_› | omega), ?_⟩
  refine comp_map (fun xx => true) (fun r => match r with | [.tup ds] => dO (placeV (ds.map fun d => match d with | .int i => i | _ => 0) st.std) | _ => .none) (fun r xx K h => h) (fun r hr xx K h => ?_) ?_
  · simp only [List.map_map, List.mem_map] at hr
    obtain ⟨x, _, rfl⟩ := hr
    simp only [M.Count_places_e1, Function.comp] at h ⊢
    simp only [ev_nil, ev_cons, E.var, E.call, q_val, setAll, g_z, g_s, List.set_cons_zero, List.set_cons_succ]
    refine hP ?_
    have e : (x.2.map D.int).map (fun d => match d with | .int i => i | _ => 0) = x.2 := by rw [List.map_map]; exact List.map_id _
    rw [e] at h
    exact h
  · have e : List.map (fun r : List D => match r with | [.tup ds] => dO (placeV (ds.map fun d => match d with | .int i => i | _ => 0) st.std) | _ => D.none) (List.filter (fun xx => true) ((B.map fun x => D.tup (x.2.map D.int)).map fun d => [d])) = (placesF B st.std).map dO := by
      rw [filter_all, placesF, List.map_map, List.map_map, List.map_map]
      refine List.map_congr_left fun x xx => ?_
      simp only [Function.comp]
      have e : (x.2.map D.int).map (fun d => match d with | .int i => i | _ => 0) = x.2 := by rw [List.map_map]; exact List.map_id _
      rw [e]
    rw [e]
    exact ⟨fun xx h => h, q⟩

theorem seats_spec (hc : CountIs X c) (h : CntAt c σ a dx b k B s sts) {st : St} {Q : D → Sg → Prop} (hs : sts.getLast? = some st) (hl : sts.length ≤ 1000) (hf : st.fil.length ≤ 1000) (hb : ∀ f ∈ st.fil, f.2.length ≤ 1000) (q : Q (.lst (dFil st.fil)) σ) :
    mExecs X n M.Count_seats [.val (.ref a), .unb, .unb] σ (fun fl xx σ' => (∀ b, σ b ≠ none → σ' b ≠ none) ∧ Q (flD fl) σ') := by
  simp only [M.Count_seats]
  rw [ms_cons]
  simp only [E.cst, E.var, E.lst, E.idx, L.comp, It.seq, S.ret, q_val, E.attr, E.last, flD, g_z, List.length_cons, List.length_nil, Nat.zero_add, ms_nil]
  refine x_attr hc h rfl lk_states (x_last h hs hl ?_)
  simp only [dSt]
  simp only [t_2]
  have e0 : dFil st.fil = (st.fil.map fun x => [.int x.1, .lst (dBe x.2)]).map D.tup := by simp [dFil, List.map_map, Function.comp]
  refine ⟨by decide, st.fil.map fun x => [.int x.1, .lst (dBe x.2)], by rw [e0], ?_, by simp; (first | with_reducible exact oo3 ‹_› | omega), ?_⟩
  · intro r hr
    obtain ⟨x, _, rfl⟩ := List.mem_map.mp hr
    rfl
  · refine comp_map (fun xx => true) (fun r => .tup r) (fun r xx K h => h) (fun r hr xx K h => ?_) ?_
    · obtain ⟨x, hx, rfl⟩ := List.mem_map.mp hr
      have := hb x hx
      simp only [M.Count_seats_e1]
      simp only [ev_nil, ev_cons, E.var, E.lst, E.tupE, L.ofSeq, It.seq, q_val, q_one, setAll, g_z, g_s, List.set_cons_zero, List.set_cons_succ, List.length_cons, List.length_nil, Nat.zero_add, List.length_map, map_headD]
      exact ⟨by rw [dBe_len]; (first | with_reducible exact oo3 ‹_› | omega), by first | decide | omega, h⟩
    · rw [filter_all, ← e0]
      exact ⟨fun xx h => h, q⟩
end
inductive Deed where
  | out (c : Int)
  | seat (c : Int)
noncomputable def Deed.who : Deed → Int
  | .out c => c
  | .seat c => c
noncomputable def Deed.word : Deed → Str
  | .out _ => "out"
  | .seat _ => "seated"
noncomputable def dDeed (t : Deed) : D := .tup [.str t.word, .int t.who]
noncomputable def holdF (k : Nat) (B : List (Int × List Int)) (st : St) : List Int := heldL k ((placesF B st.std).zip st.lft)
noncomputable def lyingF (ps : List (Option Int)) (c : Int) : List Nat := (List.range ps.length).filter fun i => decide (ps.getD i none = some c)
noncomputable def restF (l : List Int) (zs : List (Nat × Int)) : List Int := zs.foldl (fun acc z => acc.set z.1 (acc.getD z.1 0 - z.2)) l
noncomputable def bearF (zs : List (Nat × Int)) : List (Int × Int) := (zs.filter fun z => decide (0 < z.2)).map fun z => ((z.1 : Int), z.2)
noncomputable def givenF (k : Nat) (B : List (Int × List Int)) (s : Int) (st : St) (c : Int) : List (Nat × Int) :=
  (lyingF (placesF B st.std) c).zip (PV.partsV ((lyingF (placesF B st.std) c).map fun i => st.lft.getD i 0) (min (quotaV B s) (hold (holdF k B st) c)))
noncomputable def nextS (k : Nat) (B : List (Int × List Int)) (s : Int) (st : St) : Deed → St
  | .out c => ⟨st.std.filter fun x => decide (x ≠ c), st.lft, st.fil⟩
  | .seat c => ⟨st.std.filter fun x => decide (x ≠ c), restF st.lft (givenF k B s st c), st.fil ++ [(c, bearF (givenF k B s st c))]⟩
noncomputable def IsNext (k : Nat) (B : List (Int × List Int)) (s : Int) (st : St) (t : Deed) : Prop :=
  1 ≤ s - st.fil.length ∧ ∃ m, IsMost (holdF k B st) st.std m ∧ match t with
    | .seat c => c = m ∧ ((st.std.length : Int) ≤ s - st.fil.length ∨ quotaV B s ≤ hold (holdF k B st) m)
    | .out c => ¬ ((st.std.length : Int) ≤ s - st.fil.length ∨ quotaV B s ≤ hold (holdF k B st) m) ∧ IsLeast (holdF k B st) st.std c
structure Good (k : Nat) (B : List (Int × List Int)) (s : Int) (st : St) : Prop where
  rise : st.std.Pairwise (· < ·)
  inn : ∀ c ∈ st.std, 0 ≤ c ∧ c < (k : Int)
  llen : st.lft.length = B.length
  lnn : ∀ l ∈ st.lft, 0 ≤ l ∧ l ≤ 1000000000
  room : s - st.fil.length ≤ st.std.length
  fle : (st.fil.length : Int) ≤ s
  fbe : ∀ f ∈ st.fil, f.2.length ≤ 40

set_option tactic.hygienic true in
theorem deed_typed {k : Nat} {B : List (Int × List Int)} {s : Int} {st : St} {d : D} (h : IsDeed (holdF k B st) st.std (s - st.fil.length) (quotaV B s) d) : (s - st.fil.length < 1 ∧ d = .none) ∨ ∃ t, IsNext k B s st t ∧ d = dDeed t := by
  unfold IsDeed at h
  split at h
  · exact .inl ⟨by assumption, h⟩
  · rename_i hs
    obtain ⟨m, hm, h⟩ := h
    right
    split at h
    · rename_i hc
      exact ⟨.seat m, ⟨by first | decide | with_reducible exact Int.not_lt.mp ‹_› | omega, m, hm, rfl, hc⟩, h⟩
    · rename_i hc
      obtain ⟨w, hw, h⟩ := h
      exact ⟨.out w, ⟨by first | decide | with_reducible exact Int.not_lt.mp ‹_› | omega, m, hm, hc, hw⟩, h⟩

theorem i_dO {ps : List (Option Int)} {j : Nat} {Q : D → Prop} (hj : j < ps.length) (hb : j < 1000) (q : Q (dO (ps.getD j none))) : idxT (.lst (ps.map dO)) (.int j) Q := by
  rw [i_lst]
  exact ⟨by first | decide | with_reducible exact oo1 _ | omega, by first | decide | with_reducible exact oon ‹_› | omega, dO (ps.getD j none), by simp [hj, List.getD], q⟩
theorem ok_dO (n : Nat) (p : Option Int) : D.ok n (dO p) = true := by cases p <;> cases n <;> rfl
theorem eqv_dO (p : Option Int) (c : Int) : eqv (dO p) (.int c) = decide (p = some c) := by
  cases p with
  | none => rfl
  | some x =>
    rw [dO, eqv_int]
    by_cases h : x = c
    · simp [h]
    · simp [h]
theorem lying_lt {ps : List (Option Int)} {c : Int} {i : Nat} (h : i ∈ lyingF ps c) : i < ps.length := List.mem_range.mp (List.mem_filter.mp h).1
theorem lying_len (ps : List (Option Int)) (c : Int) : (lyingF ps c).length ≤ ps.length := by
  have := List.length_filter_le (fun i => decide (ps.getD i none = some c)) (List.range ps.length)
  rw [List.length_range] at this
  exact this
theorem rest_len (l : List Int) (zs : List (Nat × Int)) : (restF l zs).length = l.length := by
  unfold restF
  induction zs generalizing l with
  | nil => rfl
  | cons z zs ih => rw [List.foldl_cons, ih]; simp
theorem rest_take {l : List Int} {zs : List (Nat × Int)} {j : Nat} (hj : j < zs.length) : restF l (zs.take (j + 1)) = (restF l (zs.take j)).set zs[j].1 ((restF l (zs.take j)).getD zs[j].1 0 - zs[j].2) := by
  unfold restF
  rw [← List.take_append_getElem hj, List.foldl_append]
  rfl
theorem bear_take {zs : List (Nat × Int)} {j : Nat} (hj : j < zs.length) : bearF (zs.take (j + 1)) = bearF (zs.take j) ++ (if 0 < zs[j].2 then [((zs[j].1 : Int), zs[j].2)] else []) := by
  unfold bearF
  rw [← List.take_append_getElem hj, List.filter_append, List.map_append]
  congr 1
  by_cases h : 0 < zs[j].2
  · simp [h]
  · simp [h]
theorem bear_len (zs : List (Nat × Int)) : (bearF zs).length ≤ zs.length := by
  unfold bearF
  rw [List.length_map]
  exact List.length_filter_le _ _

section
variable {X : Cx} {n : Nat} {σ : Sg} {c : CA} {a dx b : Addr} {k : Nat} {B : List (Int × List Int)} {s : Int} {sts : List St}
noncomputable def HasDeed (X : Cx) : Prop := ∀ {n : Nat} {σ : Sg} {hs st : List Int} {seats many : Int} {Q : D → Sg → Prop}, hs.length ≤ 1000 → st.length ≤ 1000 → (seats < 1 ∨ Stand hs.length st) → (∀ d, IsDeed hs st seats many d → Q d σ) →
  CallSem X (n + 1 + 1) "deed_of" [.lst (hs.map D.int), .lst (st.map D.int), .int seats, .int many] σ Q
noncomputable def HasPlaces (X : Cx) (c : CA) : Prop := ∀ {n : Nat} {σ : Sg} {a dx b : Addr} {k : Nat} {B : List (Int × List Int)} {s : Int} {sts : List St} {st : St} {Q : D → Sg → Prop}, CntAt c σ a dx b k B s sts → sts.getLast? = some st → sts.length ≤ 1000 → B.length ≤ 1000 →
  Q (.lst ((placesF B st.std).map dO)) σ → CallA X (n + 1 + 1) (.ref c.places) [.ref a] σ Q

theorem x_meth {f : Addr} (h : CntAt c σ a dx b k B s sts) {name : Str} {Q : D → Sg → Prop} (hm : MethAt X c.C name f) (hl : (name == ("many" : Str) || name == ("chairs" : Str) || name == ("enough" : Str) || name == ("rows" : Str) || name == ("states" : Str)) = false)
    (q : CallA X n (.ref f) [.ref a] σ Q) : ∃ a' C dx fs f, D.ref a = .ref a' ∧ σ a' = some (.inst C dx) ∧ σ dx = some (.ns fs) ∧ fs.lookup name = none ∧ MethAt X C name f ∧ CallA X n (.ref f) [.ref a'] σ Q :=
  ⟨a, c.C, dx, _, f, rfl, h.ins, h.ns, lk_no hl, hm, q⟩

theorem step_spec (hPl : HasPlaces X c) (hH : HasHeld X) (hD : HasDeed X) (hPa : HasParts X) (hc : CountIs X c) (h : CntAt c σ a dx b k B s sts) {st : St} {Q : D → Sg → Prop} (hs : sts.getLast? = some st) (hl : sts.length ≤ 900) (hk : k ≤ 100) (hB : B.length ≤ 40) (hs0 : 0 ≤ s) (hs1 : s ≤ 100)
    (hrow : ∀ x ∈ B, RowOk k x.2) (hg : Good k B s st) (q0 : s - st.fil.length < 1 → Q .none σ) (q1 : ∀ t, IsNext k B s st t → Q (dDeed t) (σ.put b (.list ((sts ++ [nextS k B s st t]).map dSt)))) :
    mExecs X (n + 1 + 1) M.Count_step [.val (.ref a), .unb, .unb, .unb, .unb, .unb, .unb, .unb, .unb, .unb, .unb, .unb, .unb, .unb, .unb, .unb, .unb, .unb] σ (fun fl xx σ' => (∀ b, σ b ≠ none → σ' b ≠ none) ∧ Q (flD fl) σ') := by
  have hll := hg.llen
  have hfl := hg.fle
  have hsl : st.std.length ≤ k := RowOk.len ⟨hg.rise.imp fun h => Int.ne_of_lt h, hg.inn⟩
  have hpl : (placesF B st.std).length = B.length := by simp [placesF]
  have keep : ∀ t : TObj, ∀ b', σ b' ≠ none → (σ.put b t) b' ≠ none := fun t b' hb => by
    by_cases e : b' = b
    · subst e; rw [Sg.put_self]; simp
    · rw [Sg.put_ne e]; exact hb
  simp only [M.Count_step]
  rw [ms_cons]
  simp only [E.var, S.unp, q_val, E.attr, E.last, flD, g_z, List.length_cons, List.length_nil, Nat.zero_add]
  refine x_attr hc h rfl lk_states (x_last h hs (by first | decide | with_reducible exact oo3 ‹_› | omega) ?_)
  simp only [dSt]
  simp only [q_tup, setAll, List.set_cons_zero, List.set_cons_succ, List.length_cons, List.length_nil, Nat.zero_add, true_and]
  rw [ms_cons]
  simp only [E.var, S.asg, q_val, E.meth, g_z, List.set_cons_zero, List.set_cons_succ]
  refine x_meth h hc.places rfl (hPl h hs (by first | decide | with_reducible exact oo3 ‹_› | omega) (by first | decide | with_reducible exact oo3 ‹_› | omega) ?_)
  rw [ms_cons]
  simp only [ev_nil, ev_cons, E.var, E.call, S.asg, q_val, E.attr, g_z, g_s, List.set_cons_zero, List.set_cons_succ]
  refine x_attr hc h rfl lk_many ?_
  refine hH (by first | decide | with_reducible exact oo3 ‹_› | omega) (fun p hp e he => ?_) ?_
  · obtain ⟨x, hx, rfl⟩ := List.mem_map.mp hp
    exact (hrow x hx).inn e (placeV_in he).1
  have hhl : (holdF k B st).length = k := heldL_len _ _
  show mExecs X (n + 1 + 1) _ [_, _, .val (.lst ((holdF k B st).map D.int)), _, _, _, _, _, _, _, _, _, _, _, _, _, _, _] _ _
  rw [ms_cons]
  simp only [ev_nil, ev_cons, E.var, E.bin, E.call, E.bi, S.asg, q_val, E.attr, f_len, g_z, g_s, List.set_cons_zero, List.set_cons_succ]
  refine x_attr hc h rfl lk_chairs ?_
  simp only [b_sub]
  rw [dFil_len]
  refine ⟨by first | decide | omega, x_attr hc h rfl lk_enough ?_⟩
  refine hD (by first | decide | with_reducible exact oo9 ‹_› ‹_› | omega) (by first | decide | with_reducible exact ooc ‹_› ‹_› | omega) ?_ fun d hd => ?_
  · by_cases hz : s - (st.fil.length : Int) < 1
    · exact .inl hz
    · right
      rw [hhl]
      refine ⟨hg.rise, hg.inn, fun e => ?_⟩
      have := hg.room
      rw [e] at this
      simp at this; omega
  rw [ms_cons]
  simp only [E.cst, E.var, E.cmp, S.iff, q_val, c_is, cond_bool, g_z, g_s, ms_nil]
  rcases deed_typed hd with ⟨hz, rfl⟩ | ⟨t, ht, rfl⟩
  · simp only [D.isNone, if_true]
    rw [ms_cons]
    simp only [E.cst, S.ret, keepS, true_and, ms_nil]
    exact q0 hz
  · simp only [dDeed, D.isNone, Bool.false_eq_true, if_false]
    have htw : t.who ∈ st.std := by
      obtain ⟨_, m, hm, h⟩ := ht
      cases t with
      | out w => exact h.2.1
      | seat w => rw [show (Deed.seat w).who = m from h.1]; exact hm.1
    have hti := hg.inn _ htw
    rw [ms_cons]
    simp only [E.var, S.unp, q_val, q_tup, setAll, g_z, g_s, List.set_cons_zero, List.set_cons_succ, List.length_cons, List.length_nil, Nat.zero_add, true_and]
    rw [ms_cons]
    simp only [E.var, E.lst, L.comp, It.seq, S.asg, q_val, q_one, g_z, g_s, List.set_cons_zero, List.set_cons_succ, List.length_cons, List.length_nil, Nat.zero_add, List.length_map]
    refine ⟨by first | decide | with_reducible exact ooc ‹_› ‹_› | omega, ?_⟩
    refine comp_map (fun r => match r with | [.int x] => decide (x ≠ t.who) | _ => false) (fun r => match r with | [d] => d | _ => .none) (fun r hr K hK => ?_) (fun r hr xx K hK => ?_) ?_
    · simp only [List.map_map, List.mem_map] at hr
      obtain ⟨x, _, rfl⟩ := hr
      simp only [M.Count_step_p1, Function.comp] at hK ⊢
      simp only [cd_some, E.var, E.cmp, q_val, c_ne, setAll, g_z, g_s, List.set_cons_zero, List.set_cons_succ]
      exact hK
    · simp only [List.map_map, List.mem_map] at hr
      obtain ⟨x, _, rfl⟩ := hr
      simp only [M.Count_step_e1, Function.comp] at hK ⊢
      simp only [E.var, q_val, setAll, g_z, g_s, List.set_cons_zero, List.set_cons_succ]
      exact hK
    have e4 : List.map (fun r : List D => match r with | [d] => d | _ => D.none) (List.filter (fun r => match r with | [.int x] => decide (x ≠ t.who) | _ => false) ((st.std.map D.int).map fun d => [d])) = (st.std.filter fun x => decide (x ≠ t.who)).map D.int := by
      rw [List.map_map, List.filter_map, List.map_map]; rfl
    rw [e4]
    rw [ms_cons]
    simp only [E.cst, E.var, E.cmp, S.iff, q_val, cond_bool, g_z, g_s, ms_nil]
    cases t with
    | out w =>
      simp only [Deed.word, c_eqx, eqv_str, beq_self_eq_true, if_true]
      refine ⟨by decide +kernel, by decide +kernel, ?_⟩
      rw [ms_cons]
      simp only [ev_nil, ev_cons, E.var, E.tupE, S.expr, q_val, E.attr, E.appT, g_z, g_s, List.length_cons, List.length_nil, Nat.zero_add]
      refine x_attr hc h rfl lk_states ⟨b, _, rfl, h.lst, by first | decide | omega, _, h.lst, by simp; (first | with_reducible exact oo4 ‹_› | omega), ?_⟩
      rw [ms_cons]
      simp only [E.var, S.ret, q_val, g_z, g_s, ms_nil]
      have := q1 (.out w) ht
      rw [List.map_append] at this
      exact ⟨keep _, this⟩
    | seat w =>
      have hne : (("seated" : Str) == ("out" : Str)) = false := by decide +kernel
      simp only [Deed.word, c_eqx, eqv_str, hne, Bool.false_eq_true, if_false]
      refine ⟨by decide +kernel, by decide +kernel, ?_⟩
      clear e4
      simp only [Deed.who] at htw hti ⊢
      rw [ms_cons]
      simp only [ev_nil, ev_cons, E.var, E.lst, E.bi, L.comp, It.range, S.asg, q_val, q_int, f_len, g_z, g_s, List.set_cons_zero, List.set_cons_succ, List.length_cons, List.length_nil, Nat.zero_add, List.length_map, true_and]
      refine ⟨by simp; (first | with_reducible exact oo9 ‹_› ‹_› | omega), by first | decide | with_reducible exact oo2 _ | omega, by first | decide | with_reducible exact ooa ‹_› ‹_› | omega, by simp; (first | with_reducible exact oo9 ‹_› ‹_› | omega), ?_⟩
      generalize hps : placesF B st.std = ps at *
      refine comp_map (fun r => match r with | [.int x] => decide (ps.getD x.toNat none = some w) | _ => false) (fun r => match r with | [d] => d | _ => .none) (fun r hr K hK => ?_) (fun r hr xx K hK => ?_) ?_
      · obtain ⟨j, hj, rfl⟩ := List.mem_map.mp hr
        have hj' := List.mem_range.mp hj
        simp only [List.length_map, Int.toNat_natCast] at hj'
        simp only [M.Count_step_p2] at hK ⊢
        simp only [cd_some, E.var, E.cmp, E.idx, q_val, setAll, g_z, g_s, List.set_cons_zero, List.set_cons_succ]
        refine i_dO hj' (by first | decide | with_reducible exact ooj ‹_› ‹_› ‹_› | omega) ?_
        simp only [c_eqx, eqv_dO, ok_dO, true_and]
        exact ⟨rfl, hK⟩
      · obtain ⟨j, hj, rfl⟩ := List.mem_map.mp hr
        simp only [M.Count_step_e2] at hK ⊢
        simp only [E.var, q_val, setAll, g_z, g_s, List.set_cons_zero, List.set_cons_succ]
        exact hK
      have e5 : List.map (fun r : List D => match r with | [d] => d | _ => D.none) (List.filter (fun r => match r with | [.int x] => decide (ps.getD x.toNat none = some w) | _ => false) ((List.range ps.length).map fun (j : Nat) => [D.int (j : Int)])) = (lyingF ps w).map fun (i : Nat) => D.int (i : Int) := by
        rw [List.filter_map, List.map_map]; rfl
      rw [Int.toNat_natCast, e5]
      have hly := lying_len ps w
      have hlt : ∀ i ∈ lyingF ps w, i < st.lft.length := fun i hi => by have := lying_lt hi; (first | with_reducible exact oov ‹_› ‹_› ‹_› | omega)
      rw [ms_cons]
      simp only [ev_nil, ev_cons, E.var, E.idx, E.bi, S.asg, q_val, E.attr, i_ints, g_z, g_s, List.set_cons_zero, List.set_cons_succ]
      refine x_attr hc h rfl lk_enough ?_
      simp only [f_min2]
      refine ⟨by first | decide | with_reducible exact And.left ‹_› | omega, by first | decide | with_reducible exact oos ‹_› ‹_› | omega, by first | decide | omega, ?_⟩
      rw [ms_cons]
      simp only [ev_nil, ev_cons, E.var, E.lst, E.call, L.comp, It.seq, S.asg, q_val, q_one, g_z, g_s, List.set_cons_zero, List.set_cons_succ, List.length_cons, List.length_nil, Nat.zero_add, List.length_map]
      refine ⟨by first | decide | with_reducible exact ooi ‹_› ‹_› ‹_› | omega, ?_⟩
      refine comp_map (fun xx => true) (fun r => match r with | [.int x] => .int (st.lft.getD x.toNat 0) | _ => .none) (fun r xx K h => h) (fun r hr xx K hK => ?_) ?_
      · simp only [List.map_map, List.mem_map] at hr
        obtain ⟨i, hi, rfl⟩ := hr
        have := hlt i hi
        simp only [M.Count_step_e3, Function.comp] at hK ⊢
        simp only [E.var, E.idx, q_val, i_ints, setAll, g_z, g_s, List.set_cons_zero, List.set_cons_succ]
        exact ⟨by first | decide | with_reducible exact oo1 _ | omega, by first | decide | with_reducible exact ook ‹_› ‹_› ‹_› | omega, by first | decide | with_reducible exact ood ‹_› | omega, hK⟩
      have e7 : List.map (fun r : List D => match r with | [.int x] => D.int (st.lft.getD x.toNat 0) | _ => D.none) (List.filter (fun xx => true) (((lyingF ps w).map fun (i : Nat) => D.int (i : Int)).map fun d => [d])) = ((lyingF ps w).map fun i => st.lft.getD i 0).map D.int := by
        rw [filter_all, List.map_map, List.map_map, List.map_map]; rfl
      rw [e7]
      have hws : ∀ x ∈ (lyingF ps w).map fun i => st.lft.getD i 0, 0 ≤ x ∧ x ≤ 1000000000 := fun x hx => by
        obtain ⟨i, hi, rfl⟩ := List.mem_map.mp hx
        have := hlt i hi
        rw [show st.lft.getD i 0 = st.lft[i] by simp [List.getD, this]]
        exact hg.lnn _ (List.getElem_mem this)
      have hsum := PV.sum_le fun x hx => (hws x hx).2
      rw [List.length_map] at hsum
      refine hPa (by simp; (first | with_reducible exact ooi ‹_› ‹_› ‹_› | omega)) (fun x hx => (hws x hx).1) (by first | decide | omega) ?_
      generalize hgv : PV.partsV ((lyingF ps w).map fun i => st.lft.getD i 0) (min (quotaV B s) ((holdF k B st).getD w.toNat 0)) = gv
      rw [ms_cons]
      simp only [E.var, L.ofSeq, It.seq, S.asgM, q_val, q_one, g_z, g_s, List.set_cons_zero, List.set_cons_succ, List.length_map, map_headD]
      refine ⟨by first | decide | with_reducible exact oo9 ‹_› ‹_› | omega, ?_⟩
      rw [ms_cons]
      simp only [ev_nil, L.disp, S.asgM, List.set_cons_zero, List.set_cons_succ, List.length_nil]
      refine ⟨by first | decide | omega, ?_⟩
      rw [ms_cons]
      simp only [E.var, It.zip, S.for_, q_val, q_lst, g_z, g_s, List.length_cons, List.length_nil, Nat.zero_add, true_and]
      have e8 : List.map (fun p : D × D => [p.1, p.2]) (((lyingF ps w).map fun (i : Nat) => D.int (i : Int)).zip (gv.map D.int)) = ((lyingF ps w).zip gv).map fun z => [.int (z.1 : Int), .int z.2] := by
        rw [List.zip_map, List.map_map]; rfl
      rw [e8]
      have hz1 : ∀ z ∈ (lyingF ps w).zip gv, z.1 < st.lft.length := fun z hz => hlt _ (List.of_mem_zip (show (z.1, z.2) ∈ _ from hz)).1
      have hzl : ((lyingF ps w).zip gv).length ≤ 40 := by rw [List.length_zip]; omega
      have hzg : (lyingF ps w).zip gv = givenF k B s st w := by rw [← hgv, ← hps]; rfl
      generalize (lyingF ps w).zip gv = zs at *
      refine for_inv (fun j ρ σ' => σ' = σ ∧ ∃ (a15 a16 : MV), ρ = [.val (.ref a), .val (.lst (ps.map dO)), .val (.lst ((holdF k B st).map D.int)), .val (.tup [.str "seated", .int w]), .val (.lst ((st.std.filter fun x => decide (x ≠ w)).map D.int)), .val (.lst ((lyingF ps w).map fun (i : Nat) => D.int (i : Int))),
        .val (.int (min (quotaV B s) ((holdF k B st).getD w.toNat 0))), .val (.lst (gv.map D.int)), .mt ((restF st.lft (zs.take j)).map D.int), .mt (dBe (bearF (zs.take j))), .val (.lst (st.std.map D.int)), .val (.lst (st.lft.map D.int)), .val (.lst (dFil st.fil)), .val (.str "seated"), .val (.int w), a15, a16, .unb]) ?_ ?_ ?_
      · exact ⟨rfl, .unb, .unb, rfl⟩
      · rintro j hj ρ σ' ⟨rfl, a15, a16, rfl⟩
        simp only [List.length_map] at hj
        simp only [List.getElem_map, M.Count_step_b1]
        have hz := hz1 _ (List.getElem_mem hj)
        rw [rest_take hj, bear_take hj]
        have hrl := rest_len st.lft (zs.take j)
        have hbl := bear_len (zs.take j)
        have htk : (zs.take j).length ≤ 40 := by rw [List.length_take]; omega
        generalize restF st.lft (zs.take j) = rs at *
        generalize bearF (zs.take j) = bs at *
        generalize zs[j] = z at *
        rw [ms_cons]
        simp only [E.var, E.bin, E.idx, E.borrow, S.setI, q_val, q_mt, q_int, b_sub, i_ints, setAll, frzAll, at_i, g_z, g_s, List.set_cons_zero, List.set_cons_succ, List.length_map]
        refine ⟨by first | decide | with_reducible exact ooh ‹_› ‹_› ‹_› | omega, by first | decide | with_reducible exact oo1 _ | omega, by first | decide | with_reducible exact ook ‹_› ‹_› ‹_› | omega, by first | decide | with_reducible exact oou ‹_› ‹_› | omega, by first | decide | with_reducible exact oo1 _ | omega, by first | decide | with_reducible exact oou ‹_› ‹_› | omega, ?_⟩
        rw [ms_cons]
        simp only [E.cst, E.var, E.cmp, S.iff, q_val, c_gt, cond_bool, g_z, g_s, true_and, decide_eq_true_eq, ms_nil]
        rw [set_ints, Int.toNat_natCast]
        split
        · rw [ms_cons]
          simp only [ev_nil, ev_cons, E.var, E.tupE, S.app, q_val, q_mt, g_z, g_s, List.set_cons_zero, List.set_cons_succ, List.length_cons, List.length_nil, Nat.zero_add, true_and, ms_nil]
          have e : dBe (bs ++ [((z.1 : Int), z.2)]) = dBe bs ++ [.tup [.int (z.1 : Int), .int z.2]] := by simp [dBe]
          rw [e]
          exact ⟨by rw [dBe_len]; (first | with_reducible exact ooc ‹_› ‹_› | omega), by first | decide | omega, _, _, rfl⟩
        · rw [List.append_nil]
          exact ⟨_, _, rfl⟩
      · rintro ρ σ' ⟨rfl, a15, a16, rfl⟩
        rw [List.length_map, List.take_length]
        rw [ms_cons]
        simp only [S.freeze, q_mt, g_z, g_s, List.set_cons_zero, List.set_cons_succ]
        rw [ms_cons]
        simp only [S.freeze, q_mt, g_z, g_s, List.set_cons_zero, List.set_cons_succ]
        rw [ms_cons]
        simp only [ev_nil, ev_cons, E.var, E.lst, E.tupE, L.disp, L.cat, S.expr, q_val, q_lst, E.attr, E.appT, g_z, g_s, List.length_cons, List.length_nil, Nat.zero_add]
        have e9 : dFil st.fil ++ [D.tup [.int w, .lst (dBe (bearF zs))]] = dFil (st.fil ++ [(w, bearF zs)]) := by simp [dFil]
        refine x_attr hc h rfl lk_states ⟨b, _, rfl, h.lst, by first | decide | omega, by first | decide | omega, by rw [e9, dFil_len]; simp; omega, by first | decide | omega, _, h.lst, by simp; (first | with_reducible exact oo4 ‹_› | omega), ?_⟩
        rw [e9]
        rw [ms_cons]
        simp only [E.var, S.ret, q_val, g_z, g_s, ms_nil]
        have := q1 (.seat w) ht
        rw [List.map_append] at this
        simp only [nextS, ← hzg] at this
        exact ⟨keep _, this⟩
end
theorem hold_set {acc : List Int} {d c : Int} {v : Int} (hd : 0 ≤ d) (hc : 0 ≤ c) (hlt : d < (acc.length : Int)) : hold (acc.set d.toNat v) c = if c = d then v else hold acc c := by
  unfold hold
  by_cases h : c = d
  · subst h
    rw [if_pos rfl]
    have : c.toNat < acc.length := by first | decide | omega
    simp [List.getD, this]
  · rw [if_neg h]
    have : d.toNat ≠ c.toNat := by first | decide | omega
    simp [List.getD, List.getElem?_set, this]

theorem hold_sum {k : Nat} {ps : List (Option Int)} {ls : List Int} (hl : ps.length = ls.length) (hin : ∀ p ∈ ps, ∀ c, p = some c → 0 ≤ c ∧ c < (k : Int)) {c : Int} (hc0 : 0 ≤ c) (hck : c < (k : Int)) : hold (heldL k (ps.zip ls)) c = ((lyingF ps c).map fun i => ls.getD i 0).sum := by
  have key : ∀ j, j ≤ ps.length → hold (heldL k ((ps.zip ls).take j)) c = (((List.range j).filter fun i => decide (ps.getD i none = some c)).map fun i => ls.getD i 0).sum := by
    intro j
    induction j with
    | zero =>
      intro _
      simp only [List.take_zero, heldL, List.foldl_nil, List.range_zero, List.filter_nil, List.map_nil, List.sum_nil, hold]
      simp [List.getD, List.getElem?_replicate]
      split <;> rfl
    | succ j ih =>
      intro hj
      have hjz : j < (ps.zip ls).length := by rw [List.length_zip]; omega
      have hjp : j < ps.length := by first | decide | omega
      have hjl : j < ls.length := by first | decide | with_reducible exact oog ‹_› ‹_› | omega
      rw [heldL_take hjz, List.getElem_zip, List.range_succ, List.filter_append, List.map_append, List.sum_append, ← ih (by first | decide | with_reducible exact Nat.le_of_lt ‹_› | omega)]
      have hp : ps.getD j none = ps[j] := by simp [List.getD, hjp]
      have hq : ls.getD j 0 = ls[j] := by simp [List.getD, hjl]
      have hlen := heldL_len k ((ps.zip ls).take j)
      generalize heldL k ((ps.zip ls).take j) = acc at *
      cases e : ps[j] with
      | none =>
        have : (decide (ps.getD j none = some c)) = false := by rw [hp, e]; simp
        simp only [heldT, List.filter, this, List.map_nil, List.sum_nil, Int.add_zero]
      | some d =>
        have hd := hin _ (List.getElem_mem hjp) d e
        simp only [heldT]
        rw [hold_set hd.1 hc0 (by first | decide | omega)]
        by_cases h : c = d
        · subst h
          have : (decide (ps.getD j none = some c)) = true := by rw [hp, e]; simp
          simp only [List.filter, this, List.map_cons, List.map_nil, List.sum_cons, List.sum_nil, if_true]
          rw [hq]; unfold hold; omega
        · have : (decide (ps.getD j none = some c)) = false := by rw [hp, e]; simpa using fun e => h e.symm
          simp only [List.filter, this, if_neg h, List.map_nil, List.sum_nil, Int.add_zero]
  have := key ps.length (Nat.le_refl _)
  rw [List.take_of_length_le (by rw [List.length_zip]; (first | with_reducible exact Nat.min_le_left _ _ | omega))] at this
  exact this

theorem lying_nd (ps : List (Option Int)) (c : Int) : (lyingF ps c).Nodup := List.nodup_range.filter _

theorem getD_set {l : List Int} {i j : Nat} {v : Int} (hj : j < l.length) : (l.set j v).getD i 0 = if i = j then v else l.getD i 0 := by
  by_cases h : i = j
  · subst h; simp [List.getD, hj]
  · rw [if_neg h]
    have : j ≠ i := fun e => h e.symm
    simp [List.getD, List.getElem?_set, this]

theorem rest_in : ∀ (zs : List (Nat × Int)) (l : List Int), (zs.map (·.1)).Nodup → (∀ z ∈ zs, z.1 < l.length ∧ 0 ≤ z.2 ∧ z.2 ≤ l.getD z.1 0) → (∀ x ∈ l, 0 ≤ x ∧ x ≤ 1000000000) → ∀ x ∈ restF l zs, 0 ≤ x ∧ x ≤ 1000000000
  | [], l, _, _, h => h
  | z :: zs, l, nd, hz, h => by
    simp only [List.map_cons, List.nodup_cons] at nd
    have e : restF l (z :: zs) = restF (l.set z.1 (l.getD z.1 0 - z.2)) zs := rfl
    rw [e]
    have h0 := hz z (by simp)
    refine rest_in zs _ nd.2 (fun y hy => ?_) fun x hx => ?_
    · have hy' := hz y (by simp [hy])
      have hne : y.1 ≠ z.1 := fun q => nd.1 (q ▸ List.mem_map_of_mem hy)
      rw [List.length_set, getD_set h0.1, if_neg hne]
      exact hy'
    · rcases List.mem_or_eq_of_mem_set hx with hx | rfl
      · exact h x hx
      · have hm : l.getD z.1 0 ∈ l := by
          rw [show l.getD z.1 0 = l[z.1]'h0.1 by simp [List.getD, h0.1]]
          exact List.getElem_mem h0.1
        have := h _ hm
        omega

theorem filter_one {l : List Int} {c : Int} (h : l.Pairwise (· < ·)) (hc : c ∈ l) : (l.filter fun x => decide (x ≠ c)).length + 1 = l.length := by
  have nd : l.Nodup := h.imp fun h => Int.ne_of_lt h
  have e : (l.filter fun x => decide (x ≠ c)) = l.erase c := by
    rw [nd.erase_eq_filter]
    refine List.filter_congr fun x xx => ?_
    by_cases hx : x = c <;> simp [hx]
  rw [e, List.length_erase_of_mem hc]
  have := List.length_pos_of_mem hc
  omega

section
variable {k : Nat} {B : List (Int × List Int)} {s : Int} {st : St} {t : Deed}
theorem IsNext.who (h : IsNext k B s st t) : t.who ∈ st.std := by
  obtain ⟨_, m, hm, h⟩ := h
  cases t with
  | out w => exact h.2.1
  | seat w => rw [show (Deed.seat w).who = m from h.1]; exact hm.1
theorem wsum_nn (hB : ∀ x ∈ B, 1 ≤ x.1) : 0 ≤ wsum B := PV.sum_nn fun w hw => by
  obtain ⟨x, hx, rfl⟩ := List.mem_map.mp hw
  have := hB x hx
  first | with_reducible exact oop ‹_› | omega
theorem quota_pos (hB : ∀ x ∈ B, 1 ≤ x.1) (hs : 0 ≤ s) : 1 ≤ quotaV B s := by
  unfold quotaV
  have := Int.fdiv_nonneg (wsum_nn hB) (show 0 ≤ s + 1 by first | decide | omega)
  omega
theorem places_in (hrow : ∀ x ∈ B, RowOk k x.2) (std : List Int) : ∀ p ∈ placesF B std, ∀ c, p = some c → 0 ≤ c ∧ c < (k : Int) := fun p hp c hc => by
  obtain ⟨x, hx, rfl⟩ := List.mem_map.mp hp
  exact (hrow x hx).inn c (placeV_in hc).1

theorem given_in (hB : Bal k B) (hs : 0 ≤ s) (hg : Good k B s st) {c : Int} (hc : c ∈ st.std) :
    ((givenF k B s st c).map (·.1)).Nodup ∧ ∀ z ∈ givenF k B s st c, z.1 < st.lft.length ∧ 0 ≤ z.2 ∧ z.2 ≤ st.lft.getD z.1 0 := by
  have hci := hg.inn c hc
  have hpl : (placesF B st.std).length = st.lft.length := by rw [hg.llen]; simp [placesF]
  have hin := places_in hB.row st.std
  have hsum := hold_sum hpl hin hci.1 hci.2
  unfold givenF
  rw [show holdF k B st = heldL k ((placesF B st.std).zip st.lft) from rfl, hsum]
  generalize hly : lyingF (placesF B st.std) c = ly
  have hlt : ∀ i ∈ ly, i < st.lft.length := fun i hi => by rw [← hly] at hi; have := lying_lt hi; (first | with_reducible exact oog ‹_› ‹_› | omega)
  have hnd : ly.Nodup := hly ▸ lying_nd _ _
  generalize hws : (ly.map fun i => st.lft.getD i 0) = ws
  have hwl : ws.length = ly.length := by rw [← hws]; simp
  have hw : ∀ w ∈ ws, 0 ≤ w := fun w hw => by
    rw [← hws] at hw
    obtain ⟨i, hi, rfl⟩ := List.mem_map.mp hw
    have := hlt i hi
    rw [show st.lft.getD i 0 = st.lft[i] by simp [List.getD, this]]
    exact (hg.lnn _ (List.getElem_mem this)).1
  have q1 := quota_pos (fun x hx => (hB.wt x hx).1) hs
  have q2 := PV.sum_nn hw
  have hgl : (PV.partsV ws (min (quotaV B s) ws.sum)).length = ws.length := by simp [PV.partsV]
  refine ⟨?_, fun z hz => ?_⟩
  · rw [List.map_fst_zip (by first | decide | omega)]
    exact hnd
  · obtain ⟨j, hj, rfl⟩ := List.getElem_of_mem hz
    rw [List.getElem_zip]
    have hj' : j < ly.length := by rw [List.length_zip] at hj; omega
    have hjw : j < ws.length := by first | decide | with_reducible exact ooe ‹_› ‹_› | omega
    refine ⟨hlt _ (List.getElem_mem hj'), ?_⟩
    have := PV.G_bounds (s := min (quotaV B s) ws.sum) hw (by first | decide | omega) (by first | decide | with_reducible exact Int.min_le_right _ _ | omega) hjw
    have e1 : (PV.partsV ws (min (quotaV B s) ws.sum))[j]'(by first | decide | with_reducible exact ooe ‹_› ‹_› | omega) = PV.G ws (min (quotaV B s) ws.sum) (j + 1) - PV.G ws (min (quotaV B s) ws.sum) j := by simp [PV.partsV]
    have e2 : st.lft.getD ly[j] 0 = ws[j] := by simp [← hws]
    simp only [e1, e2]
    first | with_reducible assumption | omega

theorem Good.next (hB : Bal k B) (hs : 0 ≤ s) (hg : Good k B s st) (ht : IsNext k B s st t) : Good k B s (nextS k B s st t) ∧ (nextS k B s st t).std.length + 1 = st.std.length := by
  have hw := ht.who
  have hlen := filter_one hg.rise hw
  have hroom := hg.room
  have hfle := hg.fle
  have hr : (st.std.filter fun x => decide (x ≠ t.who)).Pairwise (· < ·) := hg.rise.sublist List.filter_sublist
  have hi : ∀ c ∈ st.std.filter fun x => decide (x ≠ t.who), 0 ≤ c ∧ c < (k : Int) := fun c hc => hg.inn c (List.mem_filter.mp hc).1
  obtain ⟨h1, m, hm, ht⟩ := ht
  cases t with
  | out w =>
    refine ⟨⟨hr, hi, hg.llen, hg.lnn, ?_, hg.fle, hg.fbe⟩, hlen⟩
    have h2 : ¬ (st.std.length : Int) ≤ s - st.fil.length := fun h => ht.1 (.inl h)
    show s - (st.fil.length : Int) ≤ ((st.std.filter fun x => decide (x ≠ (Deed.out w).who)).length : Int)
    omega
  | seat w =>
    have hgi := given_in hB hs hg hw
    refine ⟨⟨hr, hi, ?_, rest_in _ _ hgi.1 hgi.2 hg.lnn, ?_, ?_, fun f hf => ?_⟩, hlen⟩
    · show (restF st.lft _).length = _
      rw [rest_len]; exact hg.llen
    · show s - ((st.fil ++ [_]).length : Int) ≤ ((st.std.filter fun x => decide (x ≠ (Deed.seat w).who)).length : Int)
      rw [List.length_append, List.length_singleton]
      omega
    · show ((st.fil ++ [_]).length : Int) ≤ s
      rw [List.length_append, List.length_singleton]
      omega
    · rcases List.mem_append.mp hf with hf | hf
      · exact hg.fbe f hf
      · rw [List.mem_singleton.mp hf]
        have h1 := bear_len (givenF k B s st w)
        have h2 : (givenF k B s st w).length ≤ 40 := by
          unfold givenF
          rw [List.length_zip]
          have := lying_len (placesF B st.std) w
          have h3 : (placesF B st.std).length = B.length := by simp [placesF]
          have := hB.len
          omega
        show (bearF (givenF k B s st w)).length ≤ 40
        first | with_reducible exact ooc ‹_› ‹_› | omega
end
noncomputable def st0 (k : Nat) (B : List (Int × List Int)) : St := ⟨(List.range k).map fun (j : Nat) => (j : Int), B.map (·.1), []⟩
inductive Run (k : Nat) (B : List (Int × List Int)) (s : Int) : List (Deed × St) → St → Prop
  | nil : Run k B s [] (st0 k B)
  | snoc {l : List (Deed × St)} {st : St} {t : Deed} : Run k B s l st → IsNext k B s st t → Run k B s (l ++ [(t, st)]) (nextS k B s st t)

section
variable {k : Nat} {B : List (Int × List Int)} {s : Int}
theorem good0 (hB : Bal k B) (hs0 : 1 ≤ s) (hs : s ≤ k) : Good k B s (st0 k B) where
  rise := by
    simp only [st0]
    rw [List.pairwise_map]
    exact List.pairwise_lt_range.imp fun h => by first | decide | with_reducible exact ood ‹_› | omega
  inn := fun c hc => by
    obtain ⟨j, hj, rfl⟩ := List.mem_map.mp hc
    have := List.mem_range.mp hj
    omega
  llen := by simp [st0]
  lnn := fun l hl => by
    obtain ⟨x, hx, rfl⟩ := List.mem_map.mp hl
    have := hB.wt x hx
    omega
  room := by simp [st0]; exact hs
  fle := by simp [st0]; (first | with_reducible exact oop ‹_› | omega)
  fbe := fun f hf => by simp [st0] at hf
theorem Run.good (hB : Bal k B) (hs0 : 1 ≤ s) (hs : s ≤ k) {l : List (Deed × St)} {st : St} (h : Run k B s l st) : Good k B s st ∧ l.length + st.std.length = k := by
  induction h with
  | nil => exact ⟨good0 hB hs0 hs, by simp [st0]⟩
  | snoc _ ht ih =>
    have := ih.1.next hB (by first | decide | with_reducible exact oop ‹_› | omega) ht
    refine ⟨this.1, ?_⟩
    rw [List.length_append, List.length_singleton]
    have := ih.2
    omega
noncomputable def dRound (B : List (Int × List Int)) (x : Deed × St) : D := .tup [.str x.1.word, .int x.1.who, .lst ((placesF B x.2.std).map dO), .lst (x.2.lft.map D.int)]
end
section
variable {X : Cx} {n : Nat} {σ : Sg} {c : CA} {a dx b : Addr} {k : Nat} {B : List (Int × List Int)} {s : Int} {sts : List St}
theorem CntAt.push (h : CntAt c σ a dx b k B s sts) (x : St) : CntAt c (σ.put b (.list ((sts ++ [x]).map dSt))) a dx b k B s (sts ++ [x]) where
  ins := by rw [Sg.put_ne (fun e => by have := h.ins; rw [e, h.lst] at this; cases this)]; exact h.ins
  ns := by rw [Sg.put_ne (fun e => by have := h.ns; rw [e, h.lst] at this; cases this)]; exact h.ns
  lst := Sg.put_self _ _ _
theorem keep_put (σ : Sg) (b : Addr) (t : TObj) : ∀ x, σ x ≠ none → (σ.put b t) x ≠ none := fun x hx => by
  by_cases e : x = b
  · subst e; rw [Sg.put_self]; simp
  · rw [Sg.put_ne e]; exact hx

theorem x_setA (hc : CountIs X c) {fs : List (Str × D)} (ha : σ a = some (.inst c.C dx)) (hd : σ dx = some (.ns fs)) {name : Str} {d : D} (hn : attrNames.contains name = true) (hl : fs.lookup name = none) (hf : fs.length ≤ 100) (P : Sg → Prop)
    (q : ∀ σ', σ' a = some (.inst c.C dx) → σ' dx = some (.ns (fs ++ [(name, d)])) → (∀ x, σ x ≠ none → σ' x ≠ none) → (∀ x, x ≠ dx → σ' x = σ x) → P σ') :
    ∃ a' C dx fs, D.ref a = .ref a' ∧ σ a' = some (.inst C dx) ∧ σ dx = some (.ns fs) ∧ fs.length ≤ 100 ∧ AttrOk X C name ∧ fs.lookup name = none ∧ P (σ.put dx (.ns (fs ++ [(name, d)]))) :=
  ⟨a, c.C, dx, fs, rfl, ha, hd, hf, hc.attr name (mem_attr hn), hl, q _ (by rw [Sg.put_ne (fun e => by rw [e, hd] at ha; cases ha)]; exact ha) (Sg.put_self _ _ _) (keep_put _ _ _) fun x hx => Sg.put_ne hx⟩

theorem init_spec (hN : HasNeed X) (hQ : HasQuota X) (hc : CountIs X c) (ha : σ a = some (.inst c.C dx)) (hd : σ dx = some (.ns [])) {Q : D → Sg → Prop} (hk0 : 1 ≤ k) (hk : k ≤ 12) (hs0 : 1 ≤ s) (hs : s ≤ k) (hB : Bal k B)
    (q : ∀ σ' b, CntAt c σ' a dx b k B s [st0 k B] → (∀ x, σ x ≠ none → σ' x ≠ none) → Q .none σ') :
    mExecs X (n + 1 + 1 + 1 + 1) M.Count_init [.val (.ref a), .val (.int k), .val (.lst (dB B)), .val (.int s), .unb] σ (fun fl xx σ' => (∀ b, σ b ≠ none → σ' b ≠ none) ∧ Q (flD fl) σ') := by
  have hBl := hB.len
  have hdl : (dB B).length = B.length := by simp [dB]
  simp only [M.Count_init]
  rw [ms_cons]
  simp only [ev_nil, ev_cons, E.var, E.call, S.expr, q_val, flD, g_z, g_s]
  refine hN hk0 hk hs0 hs hB ?_
  rw [ms_cons]
  simp only [E.var, q_val, S.setA, g_z, g_s]
  refine x_setA hc ha hd rfl rfl (by simp) (fun σ' => mExecs X _ _ _ σ' _) fun σ1 ha1 hd1 k1 o1 => ?_
  rw [ms_cons]
  simp only [E.var, q_val, S.setA, g_z, g_s]
  refine x_setA hc ha1 hd1 rfl (by kernel_rfl) (by simp) (fun σ' => mExecs X _ _ _ σ' _) fun σ2 ha2 hd2 k2 o2 => ?_
  rw [ms_cons]
  simp only [ev_nil, ev_cons, E.var, E.call, q_val, S.setA, g_z, g_s]
  refine hQ (by first | decide | with_reducible exact oo3 ‹_› | omega) (by first | decide | with_reducible exact oop ‹_› | omega) (by first | decide | omega) ?_
  refine x_setA hc ha2 hd2 rfl (by kernel_rfl) (by simp) (fun σ' => mExecs X _ _ _ σ' _) fun σ3 ha3 hd3 k3 o3 => ?_
  rw [ms_cons]
  simp only [E.var, E.lst, L.comp, It.seq, q_val, q_one, S.setA, g_z, g_s, List.length_cons, List.length_nil, Nat.zero_add, List.length_map]
  refine ⟨by first | decide | with_reducible exact oo9 ‹_› ‹_› | omega, ?_⟩
  refine comp_map (fun xx => true) (fun r => match r with | [.tup [_, .lst ds]] => .tup ds | _ => .none) (fun r xx K h => h) (fun r hr xx K hK => ?_) ?_
  · simp only [dB, List.map_map, List.mem_map] at hr
    obtain ⟨x, hx, rfl⟩ := hr
    have := (hB.row x hx).len
    simp only [M.Count_init_e1, Function.comp] at hK ⊢
    simp only [ev_nil, ev_cons, E.cst, E.var, E.idx, E.bi, q_val, f_tuple1, t_1, setAll, g_z, g_s, List.set_cons_zero, List.set_cons_succ, List.length_map]
    exact ⟨by first | decide | with_reducible exact ooc ‹_› ‹_› | omega, hK⟩
  have e1 : List.map (fun r : List D => match r with | [.tup [_, .lst ds]] => D.tup ds | _ => D.none) (List.filter (fun xx => true) ((dB B).map fun d => [d])) = B.map fun x => .tup (x.2.map D.int) := by
    rw [filter_all]
    simp only [dB, List.map_map]
    rfl
  rw [e1]
  refine x_setA hc ha3 hd3 rfl (by kernel_rfl) (by simp) (fun σ' => mExecs X _ _ _ σ' _) fun σ4 ha4 hd4 k4 o4 => ?_
  rw [ms_cons]
  simp only [ev_nil, ev_cons, E.var, E.lst, E.tupE, L.disp, L.ofSeq, L.comp, It.seq, It.range, q_val, q_int, q_one, E.track, S.setA, g_z, g_s, List.length_cons, List.length_nil, Nat.zero_add, List.length_map, true_and, ms_nil]
  refine ⟨by first | decide | with_reducible exact oo2 _ | omega, by first | decide | with_reducible exact oo5 ‹_› | omega, by simp; (first | with_reducible exact oo3 ‹_› | omega), by first | decide | with_reducible exact oo9 ‹_› ‹_› | omega, ?_⟩
  refine comp_map (fun xx => true) (fun r => match r with | [.tup (d :: _)] => d | _ => .none) (fun r xx K h => h) (fun r hr xx K hK => ?_) ?_
  · simp only [dB, List.map_map, List.mem_map] at hr
    obtain ⟨x, hx, rfl⟩ := hr
    simp only [M.Count_init_e2, Function.comp] at hK ⊢
    simp only [E.cst, E.var, E.idx, q_val, t_0, setAll, g_z, g_s, List.set_cons_zero, List.set_cons_succ]
    exact hK
  have e2 : List.map (fun r : List D => match r with | [.tup (d :: _)] => d | _ => D.none) (List.filter (fun xx => true) ((dB B).map fun d => [d])) = (B.map (·.1)).map D.int := by
    rw [filter_all]
    simp only [dB, List.map_map]
    rfl
  have e3 : List.map (fun r : List D => r.headD .none) (List.map (fun (j : Nat) => [D.int (j : Int)]) (List.range (k : Int).toNat)) = ((List.range k).map fun (j : Nat) => (j : Int)).map D.int := by
    rw [List.map_map, List.map_map, Int.toNat_natCast]
    rfl
  rw [e2, e3]
  refine ⟨by first | decide | omega, by first | decide | omega, by first | decide | omega, fun b hb => ?_⟩
  have hba : a ≠ b := fun e => by rw [← e, ha4] at hb; cases hb
  have hbd : dx ≠ b := fun e => by rw [← e, hd4] at hb; cases hb
  refine x_setA hc (dx := dx) (a := a) (by rw [Sg.put_ne hba]; exact ha4) (by rw [Sg.put_ne hbd]; exact hd4) rfl (by kernel_rfl) (by simp) (fun σ' => (∀ b, σ b ≠ none → σ' b ≠ none) ∧ Q .none σ') fun σ5 ha5 hd5 k5 o5 => ?_
  have kk : ∀ x, σ x ≠ none → σ5 x ≠ none := fun x hx => k5 x (keep_put _ _ _ x (k4 x (k3 x (k2 x (k1 x hx)))))
  refine ⟨kk, q σ5 b ⟨ha5, ?_, ?_⟩ kk⟩
  · rw [hd5]; rfl
  · rw [o5 b (Ne.symm hbd), Sg.put_self]; rfl
noncomputable def HasInit (X : Cx) (c : CA) : Prop := ∀ {n : Nat} {σ : Sg} {a dx : Addr} {k : Nat} {B : List (Int × List Int)} {s : Int} {Q : D → Sg → Prop}, σ a = some (.inst c.C dx) → σ dx = some (.ns []) → 1 ≤ k → k ≤ 12 → 1 ≤ s → s ≤ k → Bal k B →
  (∀ σ' b, CntAt c σ' a dx b k B s [st0 k B] → (∀ x, σ x ≠ none → σ' x ≠ none) → Q .none σ') → CallA X (n + 1 + 1 + 1 + 1 + 1) (.ref c.init) [.ref a, .int k, .lst (dB B), .int s] σ Q
noncomputable def HasLeft (X : Cx) (c : CA) : Prop := ∀ {n : Nat} {σ : Sg} {a dx b : Addr} {k : Nat} {B : List (Int × List Int)} {s : Int} {sts : List St} {st : St} {Q : D → Sg → Prop}, CntAt c σ a dx b k B s sts → sts.getLast? = some st → sts.length ≤ 1000 → st.lft.length ≤ 1000 →
  Q (.lst (st.lft.map D.int)) σ → CallA X (n + 1) (.ref c.left) [.ref a] σ Q
noncomputable def HasSeats (X : Cx) (c : CA) : Prop := ∀ {n : Nat} {σ : Sg} {a dx b : Addr} {k : Nat} {B : List (Int × List Int)} {s : Int} {sts : List St} {st : St} {Q : D → Sg → Prop}, CntAt c σ a dx b k B s sts → sts.getLast? = some st → sts.length ≤ 1000 → st.fil.length ≤ 1000 → (∀ f ∈ st.fil, f.2.length ≤ 1000) →
  Q (.lst (dFil st.fil)) σ → CallA X (n + 1) (.ref c.seats) [.ref a] σ Q
noncomputable def HasStep (X : Cx) (c : CA) : Prop := ∀ {n : Nat} {σ : Sg} {a dx b : Addr} {k : Nat} {B : List (Int × List Int)} {s : Int} {sts : List St} {st : St} {Q : D → Sg → Prop}, CntAt c σ a dx b k B s sts → sts.getLast? = some st → sts.length ≤ 900 → k ≤ 100 → B.length ≤ 40 → 0 ≤ s → s ≤ 100 →
  (∀ x ∈ B, RowOk k x.2) → Good k B s st → (s - st.fil.length < 1 → Q .none σ) → (∀ t, IsNext k B s st t → Q (dDeed t) (σ.put b (.list ((sts ++ [nextS k B s st t]).map dSt)))) → CallA X (n + 1 + 1 + 1) (.ref c.step) [.ref a] σ Q
end
section
variable {X : Cx} {n : Nat} {σ : Sg} {c : CA} {k : Nat} {B : List (Int × List Int)} {s : Int}
theorem x_make (hI : HasInit X c) (hc : CountIs X c) (hk0 : 1 ≤ k) (hk : k ≤ 12) (hs0 : 1 ≤ s) (hs : s ≤ k) (hB : Bal k B) {P : Addr → Sg → Prop}
    (q : ∀ σ' a dx b, CntAt c σ' a dx b k B s [st0 k B] → (∀ x, σ x ≠ none → σ' x ≠ none) → P a σ') :
    ∃ C f m, X.mg "Count" = some (.ref C) ∧ MakeAt X C f ∧ n + 1 + 1 + 1 + 1 + 1 + 1 = m + 1 ∧ ∀ a dx, a ≠ dx → σ a = none → σ dx = none → CallA X m (.ref f) [.ref a, .int k, .lst (dB B), .int s] ((σ.put dx (.ns [])).put a (.inst C dx)) fun d σ' => d = .none ∧ P a σ' := by
  refine ⟨c.C, c.init, _, hc.mg, hc.made, rfl, fun a dx hne ha hdx => ?_⟩
  refine hI (Sg.put_self _ _ _) (by rw [Sg.put_ne (Ne.symm hne)]; exact Sg.put_self _ _ _) hk0 hk hs0 hs hB fun σ' b h hk' => ⟨rfl, q σ' a dx b h fun x hx => hk' x (keep_put _ _ _ x (keep_put _ _ _ x hx))⟩

theorem rounds_spec (hI : HasInit X c) (hP : HasPlaces X c) (hL : HasLeft X c) (hS : HasStep X c) (hc : CountIs X c) (hk0 : 1 ≤ k) (hk : k ≤ 12) (hs0 : 1 ≤ s) (hs : s ≤ k) (hB : Bal k B) {Q : D → Sg → Prop}
    (q : ∀ σ' l st, Run k B s l st → s - (st.fil.length : Int) < 1 → (∀ x, σ x ≠ none → σ' x ≠ none) → Q (.lst (l.map (dRound B))) σ') :
    mExecs X (n + 1 + 1 + 1 + 1 + 1 + 1) M.rounds_of [.val (.int k), .val (.lst (dB B)), .val (.int s), .unb, .unb, .unb, .unb, .unb, .unb] σ (fun fl xx σ' => (∀ b, σ b ≠ none → σ' b ≠ none) ∧ Q (flD fl) σ') := by
  have hBl := hB.len
  simp only [M.rounds_of]
  rw [ms_cons]
  simp only [ev_nil, ev_cons, E.var, S.asg, q_val, E.make, flD, g_z, g_s, List.set_cons_zero, List.set_cons_succ]
  refine x_make hI hc hk0 hk hs0 hs hB fun σ1 a dx b h1 k1 => ?_
  rw [ms_cons]
  simp only [ev_nil, L.disp, S.asgM, List.set_cons_zero, List.set_cons_succ, List.length_nil]
  refine ⟨by first | decide | omega, ?_⟩
  rw [ms_cons]
  simp only [E.cst, S.asg, List.set_cons_zero, List.set_cons_succ]
  rw [ms_cons]
  simp only [S.while_]
  refine ⟨fun m ρ σ' => ∃ (g : Bool) (l : List (Deed × St)) (st : St) (sts : List St) (a6 a7 a8 : MV), ρ = [.val (.int k), .val (.lst (dB B)), .val (.int s), .val (.ref a), .mt (l.map (dRound B)), .val (.bool g), a6, a7, a8] ∧ CntAt c σ' a dx b k B s sts ∧ sts.getLast? = some st ∧ sts.length = l.length + 1 ∧
    Run k B s l st ∧ (g = false → s - (st.fil.length : Int) < 1) ∧ m = (if g = true then st.std.length + 1 else 0) ∧ ∀ x, σ x ≠ none → σ' x ≠ none, ⟨_, true, [], st0 k B, [st0 k B], .unb, .unb, .unb, rfl, h1, rfl, rfl, .nil, (fun e => by cases e), rfl, k1⟩, ?_⟩
  rintro m ρ σ' ⟨g, l, st, sts, a6, a7, a8, rfl, h, hlast, hlen, hrun, hg, rfl, hkeep⟩
  obtain ⟨hgood, hlk⟩ := hrun.good hB hs0 hs
  have hll := hgood.llen
  simp only [E.var, q_val, cond_bool, g_z, g_s]
  cases g with
  | false =>
    simp only [Bool.false_eq_true, if_false]
    rw [ms_cons]
    simp only [S.freeze, q_mt, g_z, g_s, List.set_cons_zero, List.set_cons_succ]
    rw [ms_cons]
    simp only [E.var, S.ret, q_val, g_z, g_s, ms_nil]
    exact ⟨hkeep, q σ' l st hrun (hg rfl) hkeep⟩
  | true =>
    simp only [if_true, M.rounds_of_b1]
    rw [ms_cons]
    simp only [E.var, S.asg, q_val, E.meth, g_z, g_s, List.set_cons_zero, List.set_cons_succ]
    refine x_meth h hc.places rfl (hP h hlast (by first | decide | omega) (by first | decide | with_reducible exact oo3 ‹_› | omega) ?_)
    rw [ms_cons]
    simp only [E.var, S.asg, q_val, E.meth, g_z, g_s, List.set_cons_zero, List.set_cons_succ]
    refine x_meth h hc.left rfl (hL h hlast (by first | decide | omega) (by first | decide | with_reducible exact oo9 ‹_› ‹_› | omega) ?_)
    rw [ms_cons]
    simp only [E.var, S.asg, q_val, E.meth, g_z, g_s, List.set_cons_zero, List.set_cons_succ]
    refine x_meth h hc.step rfl (hS h hlast (by first | decide | omega) (by first | decide | with_reducible exact oo3 ‹_› | omega) (by first | decide | with_reducible assumption | omega) (by first | decide | with_reducible exact oop ‹_› | omega) (by first | decide | omega) hB.row hgood (fun hz => ?_) fun t ht => ?_)
    · rw [ms_cons]
      simp only [E.cst, E.var, E.cmp, S.asg, q_val, c_isn, g_z, g_s, List.set_cons_zero, List.set_cons_succ]
      rw [ms_cons]
      simp only [E.var, S.iff, q_val, cond_bool, g_z, g_s, Bool.not_eq_true', ms_nil]
      simp only [D.isNone, Bool.not_true, Bool.false_eq_true, if_false]
      exact ⟨0, by first | decide | omega, false, l, st, sts, _, _, _, rfl, h, hlast, hlen, hrun, fun xx => hz, rfl, hkeep⟩
    · rw [ms_cons]
      simp only [E.cst, E.var, E.cmp, S.asg, q_val, c_isn, g_z, g_s, List.set_cons_zero, List.set_cons_succ]
      rw [ms_cons]
      simp only [E.var, S.iff, q_val, cond_bool, g_z, g_s, Bool.not_eq_true', ms_nil]
      simp only [dDeed, D.isNone, Bool.not_false, if_true]
      rw [ms_cons]
      simp only [ev_nil, ev_cons, E.cst, E.var, E.tupE, E.idx, S.app, q_val, q_mt, t_0, t_1, g_z, g_s, List.set_cons_zero, List.set_cons_succ, List.length_cons, List.length_nil, Nat.zero_add, List.length_map, ms_nil]
      have hn := hgood.next hB (by first | decide | with_reducible exact oop ‹_› | omega) ht
      have e : (l ++ [(t, st)]).map (dRound B) = l.map (dRound B) ++ [.tup [.str t.word, .int t.who, .lst ((placesF B st.std).map dO), .lst (st.lft.map D.int)]] := by rw [List.map_append]; rfl
      refine ⟨by first | decide | omega, by first | decide | omega, _, Nat.lt_succ_self _, true, l ++ [(t, st)], nextS k B s st t, sts ++ [nextS k B s st t], _, _, _, by rw [e], h.push _, by simp, by simp [hlen], hrun.snoc ht, (fun e => by cases e), ?_, fun x hx => keep_put _ _ _ x (hkeep x hx)⟩
      simp only [if_true]
      omega
noncomputable def HasRounds (X : Cx) : Prop := ∀ {n : Nat} {σ : Sg} {k : Nat} {B : List (Int × List Int)} {s : Int} {Q : D → Sg → Prop}, 1 ≤ k → k ≤ 12 → 1 ≤ s → s ≤ k → Bal k B →
  (∀ σ' l st, Run k B s l st → s - (st.fil.length : Int) < 1 → (∀ x, σ x ≠ none → σ' x ≠ none) → Q (.lst (l.map (dRound B))) σ') → CallSem X (n + 1 + 1 + 1 + 1 + 1 + 1 + 1) "rounds_of" [.int k, .lst (dB B), .int s] σ Q

theorem seats_of_spec (hI : HasInit X c) (hE : HasSeats X c) (hS : HasStep X c) (hc : CountIs X c) (hk0 : 1 ≤ k) (hk : k ≤ 12) (hs0 : 1 ≤ s) (hs : s ≤ k) (hB : Bal k B) {Q : D → Sg → Prop}
    (q : ∀ σ' l st, Run k B s l st → s - (st.fil.length : Int) < 1 → (∀ x, σ x ≠ none → σ' x ≠ none) → Q (.lst (dFil st.fil)) σ') :
    mExecs X (n + 1 + 1 + 1 + 1 + 1 + 1) M.seats_of [.val (.int k), .val (.lst (dB B)), .val (.int s), .unb] σ (fun fl xx σ' => (∀ b, σ b ≠ none → σ' b ≠ none) ∧ Q (flD fl) σ') := by
  have hBl := hB.len
  simp only [M.seats_of]
  rw [ms_cons]
  simp only [ev_nil, ev_cons, E.var, S.asg, q_val, E.make, flD, g_z, g_s, List.set_cons_zero, List.set_cons_succ]
  refine x_make hI hc hk0 hk hs0 hs hB fun σ1 a dx b h1 k1 => ?_
  rw [ms_cons]
  simp only [S.while_]
  refine ⟨fun m ρ σ' => ∃ (l : List (Deed × St)) (st : St) (sts : List St), ρ = [.val (.int k), .val (.lst (dB B)), .val (.int s), .val (.ref a)] ∧ CntAt c σ' a dx b k B s sts ∧ sts.getLast? = some st ∧ sts.length = l.length + 1 ∧
    Run k B s l st ∧ m = st.std.length ∧ ∀ x, σ x ≠ none → σ' x ≠ none, ⟨_, [], st0 k B, [st0 k B], rfl, h1, rfl, rfl, .nil, rfl, k1⟩, ?_⟩
  rintro m ρ σ' ⟨l, st, sts, rfl, h, hlast, hlen, hrun, rfl, hkeep⟩
  obtain ⟨hgood, hlk⟩ := hrun.good hB hs0 hs
  have hfl := hgood.fle
  simp only [E.cst, E.var, E.cmp, q_val, E.meth, c_isn, cond_bool, g_z, g_s, Bool.not_eq_true']
  refine x_meth h hc.step rfl (hS h hlast (by first | decide | omega) (by first | decide | with_reducible exact oo3 ‹_› | omega) (by first | decide | with_reducible assumption | omega) (by first | decide | with_reducible exact oop ‹_› | omega) (by first | decide | omega) hB.row hgood (fun hz => ?_) fun t ht => ?_)
  · simp only [D.isNone, Bool.not_true, Bool.false_eq_true, if_false]
    rw [ms_cons]
    simp only [E.var, S.ret, q_val, E.meth, g_z, g_s, ms_nil, if_false, reduceCtorEq]
    refine x_meth h hc.seats rfl (hE h hlast (by first | decide | omega) (by first | decide | omega) (fun f hf => by have := hgood.fbe f hf; (first | with_reducible exact oo3 ‹_› | omega)) ?_)
    exact ⟨hkeep, q σ' l st hrun hz hkeep⟩
  · simp only [dDeed, D.isNone, Bool.not_false, if_true, M.seats_of_b1]
    rw [ms_cons]
    simp only [S.pass, true_and, ms_nil]
    have hn := hgood.next hB (by first | decide | with_reducible exact oop ‹_› | omega) ht
    exact ⟨(nextS k B s st t).std.length, by first | decide | omega, l ++ [(t, st)], nextS k B s st t, sts ++ [nextS k B s st t], h.push _, by simp, by simp [hlen], hrun.snoc ht, rfl, fun x hx => keep_put _ _ _ x (hkeep x hx)⟩
noncomputable def HasSeatsOf (X : Cx) : Prop := ∀ {n : Nat} {σ : Sg} {k : Nat} {B : List (Int × List Int)} {s : Int} {Q : D → Sg → Prop}, 1 ≤ k → k ≤ 12 → 1 ≤ s → s ≤ k → Bal k B →
  (∀ σ' l st, Run k B s l st → s - (st.fil.length : Int) < 1 → (∀ x, σ x ≠ none → σ' x ≠ none) → Q (.lst (dFil st.fil)) σ') → CallSem X (n + 1 + 1 + 1 + 1 + 1 + 1 + 1) "seats_of" [.int k, .lst (dB B), .int s] σ Q

theorem IsMost.eq {hs st : List Int} {a b : Int} (ha : IsMost hs st a) (hb : IsMost hs st b) : a = b := by
  have h1 := ha.2 b hb.1
  have h2 := hb.2 a ha.1
  omega
theorem IsLeast.eq {hs st : List Int} {a b : Int} (ha : IsLeast hs st a) (hb : IsLeast hs st b) : a = b := by
  have h1 := ha.2 b hb.1
  have h2 := hb.2 a ha.1
  omega
theorem IsNext.eq {st : St} {t u : Deed} (h1 : IsNext k B s st t) (h2 : IsNext k B s st u) : t = u := by
  obtain ⟨_, m, hm, h1⟩ := h1
  obtain ⟨_, m', hm', h2⟩ := h2
  obtain rfl := hm.eq hm'
  cases t with
  | out a =>
    cases u with
    | out b => rw [h1.2.eq h2.2]
    | seat b => exact absurd h2.2 h1.1
  | seat a =>
    cases u with
    | out b => exact absurd h1.2 h2.1
    | seat b => rw [h1.1, h2.1]
end
theorem attr_all {X : Cx} {K : W.Frag} (hK : K.In X.g) {C : Addr} (h : (attrNames.all fun x => attrChk K C x) = true) : ∀ x ∈ attrNames, AttrOk X C x := fun x hx => ⟨K, hK, List.all_eq_true.mp h x hx⟩
section
variable {k : Nat} {B : List (Int × List Int)} {s : Int}
set_option tactic.hygienic true in
theorem Run.fn {l : List (Deed × St)} {st st' : St} (h : Run k B s l st) (h' : Run k B s l st') : st = st' := by
  cases h with
  | nil =>
    generalize hl : ([] : List (Deed × St)) = l at h'
    cases h' with
    | nil => rfl
    | snoc _ _ => simp at hl
  | snoc h ht =>
    rename_i l st t
    generalize hl : l ++ [(t, st)] = l' at h'
    cases h' with
    | nil => simp at hl
    | snoc h' ht' =>
      have := List.append_inj' hl rfl
      obtain ⟨_, h2⟩ := this
      simp only [List.cons.injEq, Prod.mk.injEq, and_true] at h2
      obtain ⟨rfl, rfl⟩ := h2
      rfl
set_option tactic.hygienic true in
theorem Run.at {l : List (Deed × St)} {st : St} (h : Run k B s l st) : ∀ j (hj : j < l.length), Run k B s (l.take j) l[j].2 ∧ IsNext k B s l[j].2 l[j].1 := by
  induction h with
  | nil => intro j hj; simp at hj
  | snoc h ht ih =>
    rename_i l st t
    intro j hj
    by_cases hlt : j < l.length
    · rw [List.take_append_of_le_length (by first | decide | with_reducible exact Nat.le_of_lt ‹_› | omega), List.getElem_append_left hlt]
      exact ih j hlt
    · have : j = l.length := by rw [List.length_append, List.length_singleton] at hj; omega
      subst this
      rw [List.take_left', List.getElem_append_right (by first | decide | with_reducible exact Nat.le_refl _ | omega)]
      · simp only [Nat.sub_self, List.getElem_cons_zero]
        exact ⟨h, ht⟩
      · rfl
set_option tactic.hygienic true in
theorem Run.pre {l : List (Deed × St)} {st : St} (h : Run k B s l st) : ∀ {l' : List (Deed × St)} {st' : St}, Run k B s l' st' → s - (st'.fil.length : Int) < 1 → l.length ≤ l'.length ∧ l = l'.take l.length := by
  induction h with
  | nil => intro l' st' _ _; simp
  | snoc h ht ih =>
    rename_i l st t
    intro l' st' h' hf
    obtain ⟨h1, h2⟩ := ih h' hf
    by_cases hlt : l.length < l'.length
    · have ha := h'.at l.length hlt
      rw [← h2] at ha
      have e := ha.1.fn h
      have e2 := ha.2
      rw [e] at e2
      have e3 := e2.eq ht
      refine ⟨by rw [List.length_append, List.length_singleton]; (first | with_reducible exact Nat.succ_le_of_lt ‹_› | omega), ?_⟩
      rw [List.length_append, List.length_singleton, ← List.take_append_getElem hlt, ← h2]
      congr 1
      rw [show l'[l.length] = (l'[l.length].1, l'[l.length].2) from rfl, e, e3]
    · have hl : l'.length = l.length := by first | decide | omega
      rw [← hl, List.take_length] at h2
      subst h2
      have := h'.fn h
      subst this
      have := ht.1
      omega
set_option tactic.hygienic true in
theorem Run.std {l : List (Deed × St)} {st : St} (h : Run k B s l st) : ∀ c, c ∈ st.std ↔ (0 ≤ c ∧ c < (k : Int)) ∧ c ∉ l.map (·.1.who) := by
  induction h with
  | nil =>
    intro c
    simp only [st0, List.mem_map, List.mem_range, List.map_nil, List.not_mem_nil, not_false_eq_true, and_true]
    constructor
    · rintro ⟨j, hj, rfl⟩; omega
    · intro h; exact ⟨c.toNat, by first | decide | omega, by first | decide | omega⟩
  | snoc h ht ih =>
    rename_i l st t
    intro c
    have e : (nextS k B s st t).std = st.std.filter fun x => decide (x ≠ t.who) := by cases t <;> rfl
    rw [e, List.mem_filter, ih c]
    simp only [ne_eq, decide_not, Bool.not_eq_true', decide_eq_false_iff_not, List.map_append, List.map_cons, List.map_nil, List.mem_append, List.mem_singleton, not_or]
    exact and_assoc
theorem nextS_fil (st : St) (t : Deed) : st.fil <+: (nextS k B s st t).fil := by
  cases t with
  | out c => exact List.prefix_refl _
  | seat c => exact List.prefix_append _ _
set_option tactic.hygienic true in
theorem Run.fil {l : List (Deed × St)} {st : St} (h : Run k B s l st) : ∀ {j : Nat} {st' : St}, j ≤ l.length → Run k B s (l.take j) st' → st'.fil <+: st.fil := by
  induction h with
  | nil =>
    intro j st' _ h'
    rw [List.take_nil] at h'
    rw [h'.fn .nil]
    exact List.prefix_refl _
  | snoc h ht ih =>
    rename_i l st t
    intro j st' hj h'
    by_cases hlt : j ≤ l.length
    · rw [List.take_append_of_le_length hlt] at h'
      exact (ih hlt h').trans (nextS_fil st t)
    · rw [List.take_of_length_le (by rw [List.length_append, List.length_singleton]; omega)] at h'
      rw [h'.fn (h.snoc ht)]
      exact List.prefix_refl _

end
noncomputable def ov : Option Int → MV
  | none => .unb
  | some i => .val (.int i)
section
variable {vs : Nat → Value} {k : Nat} {m m' : MV} {ρ ρ' : List MV} {v w : Value} {d e : D} {ds : List D} {P : Prop} {i : Int} {b : Bool}
theorem ln_0 {α : Type} : ([] : List α).length = 0 := rfl
theorem ln_1 {α : Type} {a : α} : [a].length = 1 := rfl
theorem ln_2 {α : Type} {a b : α} : [a, b].length = 2 := rfl
end
noncomputable def Trk (σ : Sg) : List (Int × List (Int × Int)) → List Addr → Prop
  | x :: f, a :: as => σ a = some (.list (dBe x.2)) ∧ Trk σ f as
  | [], [] => True
  | _, _ => False
theorem Trk.len {σ : Sg} : ∀ {f : List (Int × List (Int × Int))} {as : List Addr}, Trk σ f as → as.length = f.length
  | [], [], _ => rfl
  | _ :: _, _ :: _, h => by rw [List.length_cons, List.length_cons, h.2.len]
theorem Trk.at {σ : Sg} : ∀ {f : List (Int × List (Int × Int))} {as : List Addr}, Trk σ f as → ∀ i (h : i < f.length) (h' : i < as.length), σ as[i] = some (.list (dBe f[i].2))
  | _ :: _, _ :: _, h, 0, _, _ => h.1
  | _ :: _, _ :: _, h, i + 1, h1, h2 => h.2.at i (Nat.lt_of_succ_lt_succ h1) (Nat.lt_of_succ_lt_succ h2)
section
variable {X : Cx} {n : Nat} {σ : Sg} {c : CA} {a dx b : Addr} {k : Nat} {B : List (Int × List Int)} {s : Int} {sts : List St}
end
noncomputable def nf (o : Obj) : Prop := ∀ vs, o.data ≠ .fields vs
noncomputable def Upto (σ : Sg) (h h' : Heap) : Prop := ∀ b o, h.get? b = some o → σ b = none → nf o → ∃ sl, h'.get? b = some { o with slots := sl }
theorem Upto.trans {σ : Sg} {h h' h'' : Heap} (x : Upto σ h h') (y : h'.UpToSlots h'') : Upto σ h h'' := fun b o e hs hn =>
  let ⟨_, e₁⟩ := x b o e hs hn; let ⟨sl, e₂⟩ := y b _ e₁ hn; ⟨sl, e₂⟩
theorem Upto.of_step {g : Heap} {s s' : Shared} {Φ Φ' : Fz} {σ σ' : Sg} {h : Heap} (st : Step g s s' Φ Φ' σ σ') (x : Upto σ' s'.heap h) : Upto σ s.heap h := fun b o e hs hn =>
  x b o (st.keep b o e hs) (st.outS e hs) hn
theorem Upto.of_slots {σ : Sg} {h h' : Heap} (y : h.UpToSlots h') : Upto σ h h' := fun b o e xx hn => y b o e hn

structure Bel (base : Heap) (σ : Sg) (h : Heap) (l : List Env) : Prop where
  bs : ∀ b o, base.get? b = some o → h.get? b = some o ∧ σ b = none
  fr : ∀ e ∈ l, e.scope.kind ≠ .module ∧ ∃ L o, e.frame = some L ∧ base.get? L = none ∧ h.get? L = some o ∧ σ L = none ∧ nf o
theorem Bel.step {base : Heap} {l : List Env} {g : Heap} {s s' : Shared} {Φ Φ' : Fz} {σ σ' : Sg} (x : Bel base σ s.heap l) (st : Step g s s' Φ Φ' σ σ') : Bel base σ' s'.heap l :=
  ⟨fun b o e => let ⟨h1, h2⟩ := x.bs b o e; ⟨st.keep b o h1 h2, st.outS h1 h2⟩, fun e he => let ⟨k, L, o, h1, h2, h3, h4, h5⟩ := x.fr e he; ⟨k, L, o, h1, h2, st.keep L o h3 h4, st.outS h3 h4, h5⟩⟩
theorem funFrames_of {base h : Heap} : ∀ {l : List Env}, (∀ e ∈ l, e.scope.kind ≠ .module ∧ ∃ L o, e.frame = some L ∧ base.get? L = none ∧ h.get? L = some o ∧ nf o) → h.FunFrames base l
  | [], _ => trivial
  | e :: l, x => ⟨(x e (.head _)).1, (x e (.head _)).2, funFrames_of fun e' he => x e' (.tail _ he)⟩
theorem Bel.frames {base : Heap} {σ : Sg} {h : Heap} {l : List Env} (x : Bel base σ h l) : h.FunFrames base l :=
  funFrames_of fun e he => let ⟨k, L, o, h1, h2, h3, _, h5⟩ := x.fr e he; ⟨k, L, o, h1, h2, h3, h5⟩

noncomputable def Fly (base : Heap) (l : List Env) (σ : Sg) (s : Shared) (C : Addr) (e : Value) (s' : Shared) : Prop :=
  (∃ h' tk, s' = { s with heap := h', toks := tk }) ∧ ∃ a a0, e = .ref a ∧ Heap.FlyingW base l a (.ref C) a0 s'.heap ∧ Upto σ s.heap s'.heap
theorem Fly.of_step {base : Heap} {l : List Env} {g : Heap} {s s₁ s' : Shared} {Φ Φ' : Fz} {σ σ' : Sg} {C : Addr} {e : Value} (st : Step g s s₁ Φ Φ' σ σ') (f : Fly base l σ' s₁ C e s') : Fly base l σ s C e s' := by
  obtain ⟨⟨h', tk, rfl⟩, a, a0, he, hf, u⟩ := f
  obtain ⟨h₁, tk₁, e₁⟩ := st.same
  exact ⟨⟨h', tk, by rw [e₁]⟩, a, a0, he, hf, u.of_step st⟩

noncomputable def RaiseA (X : Cx) (n : Nat) (f : Value) (ds : List D) (σ : Sg) (C : Addr) : Prop :=
  ∀ A s Φ vs base l, Room X n A → A.frames = some l → Bel base σ s.heap l → Ok X.g σ Φ s.heap → RdAll Φ vs ds → codeAny (model X.prog X.w) A (.call f ⟨vs, []⟩) (fun r s' => match r with | .ok _ => False | .error e => Fly base l σ s C e s') s
noncomputable def RaiseSem (X : Cx) (n : Nat) (f : Str) (ds : List D) (σ : Sg) (C : Addr) : Prop := ∀ a, X.mg f = some (.ref a) → RaiseA X n (.ref a) ds σ C

noncomputable abbrev ER := Cx → Nat → List MV → Sg → Addr → Prop
noncomputable def SER (X : Cx) (n : Nat) (sc : Scope) (names : List Str) (x : Expr) (m : ER) : Prop :=
  ∀ env A s Φ ρ σ C base l, env.scope = sc → EnvOk env → Room X n A → A.frames = some l → Bel base σ s.heap l → Ok X.g σ Φ s.heap → Frame X.g env names ρ σ Φ s.heap → m X n ρ σ C →
    wpAny (model X.prog X.w) A (eval x env) (fun xx xx => False) (Fly base l σ s C) s
noncomputable def ER.call (f : Str) (args : List E) : ER := fun X n ρ σ C => mEvals X n args ρ σ fun ds σ => RaiseSem X n f ds σ C
noncomputable def ER.make (cn : Str) (args : List E) : ER := fun X n ρ σ C' => ∃ C f k, X.mg cn = some (.ref C) ∧ MakeAt X C f ∧ n = k + 1 ∧ mEvals X n args ρ σ fun ds σ =>
  ∀ a dx, a ≠ dx → σ a = none → σ dx = none → RaiseA X k (.ref f) (.ref a :: ds) ((σ.put dx (.ns [])).put a (.inst C dx)) C'

theorem any_no {α : Type} {M : Model} {A : Around} {m : Sem α} {Q : α → Shared → Prop} {E : Value → Shared → Prop} {s : Shared} (h : wpAny M A m Q No s) : wpAny M A m Q E s := wpAny_mono h (fun xx xx q => q) fun xx xx q => q.elim

section
variable {X : Cx} {n : Nat} {sc : Scope} {names : List Str}

theorem SER_call {f : Str} {x : Expr} {xs : List Expr} {es : List E} {p pos : Pos} (G : Gnd X) (hf : IsFn X f) (hx : SEs X n sc names (x :: xs) es) (hk : sc.names.lookup f = some .globalImplicit) (hs : (x :: xs).all notStar = true)
    (hd : (f == ("__debug__" : Str)) = false) : SER X n sc names (.Call (.Name f p) (x :: xs) [] pos) (.call f es) := by
  intro env A s Φ ρ σ C base l he eo hroom hfr bel ok F h
  have hkf : env.kindOf f = some .globalImplicit := by rw [Env.kindOf_sc he]; exact hk
  simp only [List.all_cons, Bool.and_eq_true] at hs
  refine Call_Name rfl ?_
  obtain ⟨a, o, fd, h1, h2, h3⟩ := hf
  refine any_no (name_fn G ok eo hkf h1 hd ?_)
  refine callWith_def (o := o) (fd := fd) h3 (wpAny_mono (hx env A s Φ ρ σ _ pos he eo hroom ok F h) ?_ fun xx xx h => h.elim) (starEach_cons hs.1)
  rintro vs s₁ ⟨ds, σ₁, Φ₁, st, r, q⟩
  refine ⟨(st.ok.base _ _ h2).1, wpAny_call (codeAny_mono (q a h1 A s₁ Φ₁ vs base l hroom hfr (bel.step st) st.ok r) fun r s' hr => ?_)⟩
  cases r with
  | ok f => exact hr.elim
  | error e => exact hr.of_step st

theorem SER_make {cn : Str} {x : Expr} {xs : List Expr} {es : List E} {p pos : Pos} (G : Gnd X) (hx : SEs X n sc names (x :: xs) es) (hk : sc.names.lookup cn = some .globalImplicit) (hs : (x :: xs).all notStar = true)
    (hd : (cn == ("__debug__" : Str)) = false) : SER X n sc names (.Call (.Name cn p) (x :: xs) [] pos) (.make cn es) := by
  intro env A s Φ ρ σ C' base l he eo hroom hfr bel ok F h
  obtain ⟨C, f, k, hmg, ⟨K, hK, hc⟩, rfl, h⟩ := h
  have hkf : env.kindOf cn = some .globalImplicit := by rw [Env.kindOf_sc he]; exact hk
  simp only [List.all_cons, Bool.and_eq_true] at hs
  simp only [mkChk, Bool.and_eq_true, beq_iff_eq] at hc
  obtain ⟨⟨⟨h1, h2⟩, h3⟩, h4⟩ := hc
  refine Call_Name rfl (any_no (name_fn G ok eo hkf hmg hd ?_))
  refine PySem.W.callWith_K (hK.keeps fun b o e => (ok.base b o e).1) h4 (wpAny_mono (hx env A s Φ ρ σ _ pos he eo hroom ok F h) ?_ fun xx xx h => h.elim) (starEach_cons hs.1) (plain_star xs hs.2)
  rintro vs s₁ ⟨ds, σ₁, Φ₁, st, r, q⟩
  have X1 : K.In s₁.heap := hK.keeps fun b o e => (st.ok.base b o e).1
  refine ⟨X1, ?_⟩
  refine wpAny_call ?_
  have bel₁ := bel.step st
  have hsm := st.same
  obtain ⟨hh, g, dr, t, os⟩ := s₁
  refine PySem.W.make_core (PySem.W.makes_of X1 h1) (PySem.W.looks_findIn X1 h2) (fun self => PySem.W.bind_fn X1 self h3) (.inl rfl) ?_
  have n0 : hh.get? hh.objs.size = none := size_none hh
  have n1 : hh.get? (hh.objs.size + 1) = none := none_of_ge (Nat.le_succ _)
  have s0 := st.ok.freshS n0
  have s1 := st.ok.freshS n1
  have f0 := st.ok.freshF n0
  have f1 := st.ok.freshF n1
  have e1 : ((hh.push PySem.W.emptyDict).push (PySem.W.instObj C hh.objs.size)).get? hh.objs.size = some PySem.W.emptyDict := Heap.get?_push_of_some _ (Heap.get?_push_size _ rfl)
  have e2 : ((hh.push PySem.W.emptyDict).push (PySem.W.instObj C hh.objs.size)).get? (hh.objs.size + 1) = some (PySem.W.instObj C hh.objs.size) := by
    have := Heap.get?_push_size (hh.push PySem.W.emptyDict) (o := PySem.W.instObj C hh.objs.size) rfl
    rwa [Heap.size_push] at this
  have nsE : ((hh.push PySem.W.emptyDict).push (PySem.W.instObj C hh.objs.size)).Ns1 hh.objs.size fun xx => none := Heap.Ns1.of_empty ⟨PySem.W.emptyDict, #[], 0, e1, rfl, fun xx he => by simp at he, fun xx => rfl⟩
  have k1 : Step X.g ⟨hh, g, dr, t, os⟩ ⟨(hh.push PySem.W.emptyDict).push (PySem.W.instObj C hh.objs.size), g, dr, t, os⟩ Φ₁ Φ₁ σ₁ σ₁ := Step.keeps (tk := t) st.ok fun b o e => Heap.get?_push_of_some _ (Heap.get?_push_of_some _ e)
  have k2 := (k1.track st.ok (t := .ns []) n0 f0 ⟨_, nsE, fun xx => .no⟩).track st.ok (t := .inst C hh.objs.size) n1 f1 e2
  have hfr' : (A.under (.builtin "type.__call__" ⟨.ref C :: vs, []⟩)).frames = some l := by
    have hp : ∀ x : Option (List Env), pushEnvs (Code.builtin "type.__call__" ⟨.ref C :: vs, []⟩).envs x = x := fun x => rfl
    exact (hp A.frames).trans hfr
  have z := q (hh.objs.size + 1) hh.objs.size (Nat.succ_ne_self _) s1 s0 _ _ Φ₁ (.ref (hh.objs.size + 1) :: vs) base l (hroom.under (c := .builtin "type.__call__" ⟨.ref C :: vs, []⟩) (Nat.le_of_ble_eq_true rfl) (Nat.le_of_ble_eq_true rfl)) hfr' (bel₁.step k2) k2.ok (.cons (.ref _) r)
  refine codeAny_mono z fun r s' hr => ?_
  cases r with
  | ok f => exact hr.elim
  | error e => exact hr.of_step (st.trans k2)
end
inductive Sta (base : Heap) (env : Env) (l : List Env) (C a : Addr) (h : Heap) : Prop
  | made {h₀ : Heap} {args : List Value} : base.StaysIn h₀ → h₀.FunFrames base (env :: l) → Heap.MadeExcOf h₀ h a (.ref C) args → Sta base env l C a h
  | fly {a0 : Value} : Heap.FlyingW base (env :: l) a (.ref C) a0 h → Sta base env l C a h
  | held {a0 : Value} : Heap.HeldW base (env :: l) a (.ref C) a0 env.locals h → Sta base env l C a h

section
variable {M : Model} {A : Around} {E : Value → Shared → Prop} {s : Shared} {base : Heap} {env : Env} {l : List Env} {C a : Addr} {Q : Unit → Shared → Prop}
theorem Sta.leave (x : Sta base env l C a s.heap) (hfr : A.frames = some (env :: l)) (hf : env.frame = some env.locals)
    (hQ : ∀ h' a0, Heap.FlyingW base l a (.ref C) a0 h' → s.heap.UpToSlots h' → Q () { s with heap := h' }) : wpAny M A (leaving env (.ref a)) Q E s := by
  cases x with
  | made h1 h2 h3 => exact wpAny_leaves_madeW hfr hf h1 h2 h3 fun h' t k1 xx xx k2 => hQ h' _ k1 k2
  | fly h => exact wpAny_leaves_onW hfr hf h fun h' k1 k2 => hQ h' _ k1 k2
  | held h =>
    unfold leaving
    refine wpAny_bind (wpAny_noteFrame_againW hf h.2.2.2 ?_)
    refine wpAny_landsW h fun h' hfl hu => ?_
    obtain ⟨k1, k2, ⟨_, _, k3⟩, k4⟩ := hfl
    exact hQ h' _ ⟨k1, k2, k3, k4⟩ hu
theorem Sta.note (x : Sta base env l C a s.heap) (hfr : A.frames = some (env :: l)) (hf : env.frame = some env.locals)
    (hQ : ∀ h' a0, Heap.HeldW base (env :: l) a (.ref C) a0 env.locals h' → s.heap.UpToSlots h' → Q () { s with heap := h' }) : wpAny M A (noteFrame (.ref a) env) Q E s := by
  cases x with
  | made h1 h2 hx =>
    obtain ⟨t, he, htn, ht⟩ := hx.there
    have hen : base.get? a = none := by
      cases hq : base.get? a with
      | none => rfl
      | some o' => have := h1 a o' hq; rw [hx.new] at this; cases this
    unfold noteFrame
    simp only [hf]
    refine wpAny_bind (wpAny_field he rfl (x := .none) rfl ?_)
    rw [if_neg (by decide)]
    refine wpAny_entryW (a0 := .ref t) hfr (h2.of_keeps fun b o hb xx => ⟨o, hx.keeps b o hb, rfl⟩) hf he (fun b o hb => hx.keeps b o (h1 b o hb)) hen rfl (show 1 < 6 by decide) rfl fun h' hN => ?_
    obtain ⟨k1, k2, k3, k4⟩ := hN
    exact hQ h' _ ⟨k1, hen, k2, k3⟩ k4
  | fly h => exact wpAny_looks_onW hfr hf h fun h' k1 k2 => hQ h' _ k1 k2
  | held h => exact wpAny_noteFrame_againW hf h.2.2.2 (hQ s.heap _ h (.refl _))
theorem held_back {a0 : Value} (h : Heap.HeldW base (env :: l) a (.ref C) a0 env.locals s.heap) (hf : env.frame = some env.locals)
    (hQ : ∀ h', Heap.HeldW base (env :: l) a (.ref C) a0 env.locals h' → s.heap.UpToSlots h' → E (.ref a) { s with heap := h' }) : cameBackBy M A env E (.ref a) s := by
  obtain ⟨f1, f2, f3, oe, vs, T, oT, ts, he, hcls, hd, h1, hnT, hTe, hT, hdT, h3⟩ := h
  have hsz3 : 3 < ts.size := (Array.getElem?_eq_some_iff.mp h3).1
  have other : ∀ b, b ≠ T → (s.heap.update T (Obj.mapFields (·.setIfInBounds 3 ((some env.locals : Option Addr).elim Value.none fun f => rawInt f)))).get? b = s.heap.get? b :=
    fun b hb => Heap.get?_update_other _ _ (Ne.symm hb)
  have noRecord : ∀ b o, s.heap.get? b = some o → (∀ vs, o.data ≠ .fields vs) → b ≠ T := fun b o hb hnf q => by
    rw [q, hT] at hb; injection hb with hb; subst hb; exact hnf ts hdT
  unfold cameBackBy
  refine wpAny_bind (wpAny_field he hd h1 ?_)
  rw [if_neg (show ¬ ((Value.ref T == Value.none) = true) from by simp)]
  unfold setFlight
  refine wpAny_bind (wpAny_field he hd h1 ?_)
  rw [if_pos (show (Value.ref T != Value.none) = true from by simp), hf]
  refine wpAny_setField hT hdT hsz3 (hQ _ ⟨fun b o hbo => (other b fun q => by rw [q, hnT] at hbo; cases hbo).trans (f1 b o hbo), f2,
    f3.of_keeps fun b o hb hnf => ⟨o, (other b (noRecord b o hb hnf)).trans hb, rfl⟩, ?_⟩ fun b o hb hnf => ⟨o.slots, (other b (noRecord b o hb hnf)).trans hb⟩)
  exact ⟨oe, vs, T, _, _, (other a (Ne.symm hTe)).trans he, hcls, hd, h1, hnT, hTe, Heap.get?_update_self _ hT (Obj.isFreed_of_fields (Obj.data_mapFields hdT _)), Obj.data_mapFields hdT _, by simp [hsz3]⟩
end
structure BelB (base : Heap) (B : Fz) (env : Env) (l : List Env) (A : Around) : Prop where
  st : A.frames = some (env :: l)
  me : env.frame = some env.locals
  bs : ∀ b o, base.get? b = some o → B b = some o
  fr : ∀ e ∈ l, e.scope.kind ≠ .module ∧ ∃ L o, e.frame = some L ∧ base.get? L = none ∧ B L = some o ∧ nf o

noncomputable abbrev SR := Cx → Nat → List MV → Sg → (Addr → List MV → Sg → Prop) → Prop
noncomputable def Rzd (X : Cx) (env : Env) (names : List Str) (B Φ₀ : Fz) (base : Heap) (l : List Env) (s : Shared) (Φ : Fz) (R : Addr → List MV → Sg → Prop) (e : Value) (s' : Shared) : Prop :=
  (∃ h' tk, s' = { s with heap := h', toks := tk }) ∧ ∃ a C ρ' σ' Φ' h₁, e = .ref a ∧ Inv X env names B Φ₀ ρ' σ' Φ' h₁ ∧ Fz.le Φ Φ' ∧ Sta base env l C a s'.heap ∧ Upto σ' h₁ s'.heap ∧ R C ρ' σ'

noncomputable def SSR (X : Cx) (n : Nat) (sc : Scope) (names : List Str) (sts : List Stmt) (m : SR) : Prop :=
  ∀ env A s B Φ₀ ρ σ Φ R base l, env.scope = sc → EnvOk env → Room X n A → BelB base B env l A → Inv X env names B Φ₀ ρ σ Φ s.heap → m X n ρ σ R →
    wpAny (model X.prog X.w) A (execs sts env) (fun xx xx => False) (Rzd X env names B Φ₀ base l s Φ R) s
noncomputable def SR1 (X : Cx) (n : Nat) (sc : Scope) (names : List Str) (st : Stmt) (m : SR) : Prop :=
  ∀ env A s B Φ₀ ρ σ Φ R base l, env.scope = sc → EnvOk env → Room X n A → BelB base B env l A → Inv X env names B Φ₀ ρ σ Φ s.heap → m X n ρ σ R →
    wpAny (model X.prog X.w) A (exec st env) (fun xx xx => False) (Rzd X env names B Φ₀ base l s Φ R) s

noncomputable def SR.no : SR := fun xx xx xx xx xx => False
noncomputable def SR.alt (r : SR) (m : S) (rs : SR) : SR := fun X n ρ σ R => r X n ρ σ R ∨ m X n ρ σ fun fl ρ' σ' => fl = .next ∧ rs X n ρ' σ' R
noncomputable def SR.iff (c : E) (t f : SR) : SR := fun X n ρ σ R => c X n ρ σ fun b σ => condT b (t X n ρ σ R) (f X n ρ σ R)
noncomputable def SR.expr (e : ER) : SR := fun X n ρ σ R => ∃ C, e X n ρ σ C ∧ R C ρ σ
noncomputable def bmV : List Value := [.type "ValueError", .type "Exception", .type "BaseException", .type "object"]
noncomputable def ExcAt (X : Cx) (cn : Str) (C : Addr) : Prop := OwnCls cn C bmV "ValueError.__new__" X.mg X.g
noncomputable def SR.raise (cn : Str) : SR := fun X xx ρ σ R => ∃ C, ExcAt X cn C ∧ R C ρ σ

theorem sizeOne : ([D.none] : List D).length ≤ sizeLine := by show 1 ≤ sizeLine; unfold sizeLine; omega
section
variable {X : Cx} {n : Nat} {sc : Scope} {names : List Str} {env : Env} {B Φ₀ : Fz} {ρ : List MV} {σ : Sg} {Φ : Fz} {s : Shared} {A : Around}

theorem BelB.bel {base h : Heap} {l : List Env} (x : BelB base B env l A) (eo : EnvOk env) (I : Inv X env names B Φ₀ ρ σ Φ h) : Bel base σ h (env :: l) := by
  obtain ⟨m, cm, μ, F, hB⟩ := I.fr
  refine ⟨fun b o e => I.prot b o (x.bs b o e), fun e he => ?_⟩
  rcases List.mem_cons.mp he with rfl | he
  · obtain ⟨o, es, ep, ho, hd, _⟩ := F.ns
    refine ⟨by rw [eo.kind]; decide, _, o, x.me, ?_, ho, (F.priv _ (.inl rfl)).1, fun vs q => by rw [hd] at q; cases q⟩
    cases q : base.get? e.locals with
    | none => rfl
    | some o => have := x.bs _ o q; rw [hB _ (.inl rfl)] at this; cases this
  · obtain ⟨k, L, o, h1, h2, h3, h4⟩ := x.fr e he
    have := I.prot L o h3
    exact ⟨k, L, o, h1, h2, this.1, this.2, h4⟩

theorem Rzd.of {base : Heap} {l : List Env} {s₁ : Shared} {Φ₁ : Fz} {R : Addr → List MV → Sg → Prop} {e : Value} {s' : Shared} (h : Rzd X env names B Φ₀ base l s₁ Φ₁ R e s') (hs : ∃ h' tk, s₁ = { s with heap := h', toks := tk }) (le : Fz.le Φ Φ₁) :
    Rzd X env names B Φ₀ base l s Φ R e s' := by
  obtain ⟨⟨h', tk, rfl⟩, a, C, ρ', σ', Φ', h₁, he, I, le', r⟩ := h
  obtain ⟨h₂, tk₂, rfl⟩ := hs
  exact ⟨⟨h', tk, rfl⟩, a, C, ρ', σ', Φ', h₁, he, I, le.trans le', r⟩

theorem SSR_no {sts : List Stmt} : SSR X n sc names sts .no := fun xx xx xx xx xx xx xx xx xx xx xx xx xx xx xx xx h => h.elim
theorem SSR_cons {st : Stmt} {sts : List Stmt} {r : SR} {m : S} {rs : SR} (h0 : SR1 X n sc names st r) (h1 : SS X n sc names st m) (h2 : SSR X n sc names sts rs) : SSR X n sc names (st :: sts) (.alt r m rs) := by
  intro env A s B Φ₀ ρ σ Φ R base l he eo hr bel I h
  rcases h with h | h
  · exact wpAny_execs_cons (wpAny_mono (h0 env A s B Φ₀ ρ σ Φ R base l he eo hr bel I h) (fun xx xx h => h.elim) fun xx xx h => h)
  · refine wpAny_execs_cons (wpAny_mono (h1 env A s B Φ₀ ρ σ Φ _ he eo hr I h) ?_ fun xx xx h => h.elim)
    rintro f s₁ ⟨fl, ρ₁, σ₁, Φ₁, hs, I₁, le₁, fr, rfl, q⟩
    cases f <;> simp only [FlRel] at fr
    exact wpAny_mono (h2 env A s₁ B Φ₀ ρ₁ σ₁ Φ₁ R base l he eo hr bel I₁ q) (fun xx xx h => h.elim) fun xx xx h => h.of hs le₁
theorem SR1_if {c : Expr} {t f : List Stmt} {e : E} {rt rf : SR} {pos : Pos} (hc : ST X n sc names c e) (ht : SSR X n sc names t rt) (hf : SSR X n sc names f rf) : SR1 X n sc names (.If c t f pos) (.iff e rt rf) := by
  intro env A s B Φ₀ ρ σ Φ R base l he eo hr bel I h
  refine wpAny_If (wpAny_mono (hc env A s Φ ρ σ _ (fun b σ => if b = true then rt X n ρ σ R else rf X n ρ σ R) he eo hr I.ok I.frame (fun xx xx h => D.bool_of h) h) ?_ fun xx xx h => h.elim)
  rintro b s₁ ⟨σ₁, Φ₁, st, q⟩
  cases b with
  | true => exact wpAny_mono (ht env A s₁ B Φ₀ ρ σ₁ Φ₁ R base l he eo hr bel (I.step st) q) (fun xx xx h => h.elim) fun xx xx h => h.of st.same st.mono
  | false => exact wpAny_mono (hf env A s₁ B Φ₀ ρ σ₁ Φ₁ R base l he eo hr bel (I.step st) q) (fun xx xx h => h.elim) fun xx xx h => h.of st.same st.mono
theorem Rzd.fly {base : Heap} {l : List Env} {C : Addr} {R : Addr → List MV → Sg → Prop} {e : Value} {s' : Shared} (I : Inv X env names B Φ₀ ρ σ Φ s.heap) (h : Fly base (env :: l) σ s C e s') (q : R C ρ σ) : Rzd X env names B Φ₀ base l s Φ R e s' :=
  let ⟨hs, a, _, he, hf, u⟩ := h
  ⟨hs, a, C, ρ, σ, Φ, s.heap, he, I, Fz.le.refl _, .fly hf, u, q⟩
theorem SR1_expr {v : Expr} {e : ER} {pos : Pos} (hv : SER X n sc names v e) (hc : notComp v = true) : SR1 X n sc names (.Expr v pos) (.expr e) := by
  intro env A s B Φ₀ ρ σ Φ R base l he eo hr bel I h
  obtain ⟨C, h, q⟩ := h
  exact wpAny_Expr_any (wpAny_mono (hv env A s Φ ρ σ C base _ he eo hr bel.st (bel.bel eo I) I.ok I.frame h) (fun xx xx h => h.elim) fun xx xx h => .fly I h q) (interactive_no eo) (by cases v <;> first | rfl | cases hc)
theorem SR1_asg {x : Str} {v : Expr} {e : ER} {p pos : Pos} (hv : SER X n sc names v e) (hc : notComp v = true) : SR1 X n sc names (.Assign [.Name x p] v pos) (.expr e) := by
  intro env A s B Φ₀ ρ σ Φ R base l he eo hr bel I h
  obtain ⟨C, h, q⟩ := h
  exact wpAny_Assign_Name (wpAny_mono (hv env A s Φ ρ σ C base _ he eo hr bel.st (bel.bel eo I) I.ok I.frame h) (fun xx xx h => h.elim) fun xx xx h => .fly I h q) (swaps_false hc)
theorem SR1_raise {cn t : Str} {k : Nat} {np kp cpos pos : Pos} (hcm : X.calm = true) (G : Gnd X) (hk : sc.names.lookup cn = some .globalImplicit) (hd : (cn == ("__debug__" : Str)) = false) : SR1 X n sc names (.Raise (some (.Call (.Name cn np) [.Constant (.str t) k kp] [] cpos)) none pos) (.raise cn) := by
  intro env A s B Φ₀ ρ σ Φ R base l he eo hr bel I h
  obtain ⟨C, O, q⟩ := h
  obtain ⟨tl, N, nm, qn, bs, hdct, sn, sub, ab, col, dd, k0, k1, k2, k3, k5, mN, hC, hN, hni, T⟩ := O.obj
  have hb : bmV.contains (.type "BaseException") = true := F.excBase_ValueError.hasBase
  refine wpAny_Raise_call_subU (C := C) (nm := nm) (q := qn) (N := N) (bs := bs) (bm := tl) (hdct := hdct) (sn := sn) (sub := sub) (ab := ab) (col := col) (dd := dd) (k0 := k0) (k1 := k1) (k2 := k2) (k3 := k3) (k5 := k5)
    F.excBase_ValueError F.excBase_ValueError.hasB F.excBase_ValueError (mN := mN) (T.hasType hb) (hr.1 hcm) rfl hni (any_no (name_fn G I.ok eo (by rw [Env.kindOf_sc he]; exact hk) O.bound hd ⟨rfl, ?_⟩))
  have h1 : mEvals X n [.cst (.str t)] ρ σ fun ds σ' => ds = [.str t] ∧ σ' = σ := ⟨rfl, rfl⟩
  refine Calls.evalArgs_plain (wpAny_mono (SEs_cons SE_str SEs_nil rfl env A s Φ ρ σ _ cpos he eo hr I.ok I.frame h1) (fun vs s₂ h₂ => ?_) fun xx xx y => y.elim)
  obtain ⟨ds, σ₂, Φ₂, st, r, rfl, rfl⟩ := h₂
  have I₂ := I.step st
  have b := bel.bel eo I₂
  refine ⟨rfl, by rw [r.length]; exact sizeOne, st.ok.gkeep _ _ hC, hN.keeps st.ok.gkeep, T.keeps st.ok.gkeep, fun h' e hm => ?_⟩
  refine ⟨?_, e, C, ρ, σ₂, Φ₂, s₂.heap, rfl, I₂, st.mono, .made (fun x o e => (b.bs x o e).1) b.frames hm, .of_slots (.of_keeps hm.keeps), q⟩
  obtain ⟨h₃, tk₃, e₃⟩ := st.same
  exact ⟨h', tk₃, by rw [e₃]⟩

theorem call_atR {a : Addr} {ps : List Str} {body : List Stmt} {m : SR} {ds : List D} {σ : Sg} {C : Addr} (G : Gnd X) (hf : FnAt X a sc ps body) (hs : ScOk sc names ps) (hb : SSR X n sc names body m) (hlen : ds.length = ps.length)
    (h : m X n (ds.map .val ++ List.replicate (names.length - ps.length) .unb) σ (fun C' xx xx => C' = C)) : RaiseA X (n + 1) (.ref a) ds σ C := by
  intro A s Φ vs base l hroom hfr bel ok hr
  refine call_open (n := n) G hf hs hlen hroom ok hr fun env s₁ esc eo hme xx sm₁ I => ?_
  have bb : BelB base (fun b => if σ b = none then s.heap.get? b else none) env l (A.deeper env) := by
    refine ⟨Around.frames_deeper hfr, hme, fun b o e => ?_, fun e he => ?_⟩
    · obtain ⟨h1, h2⟩ := bel.bs b o e
      simp only [h2, if_true]; exact h1
    · obtain ⟨k, L, o, h1, h2, h3, h4, h5⟩ := bel.fr e he
      exact ⟨k, L, o, h1, h2, by simp only [h4, if_true]; exact h3, h5⟩
  refine wpAny_mono (hb env _ s₁ _ Φ _ σ Φ _ base l esc eo hroom.deeper bb I h) (fun xx xx h => h.elim) ?_
  rintro e s' ⟨⟨h', tk, rfl⟩, a, C', ρ', σ', Φ', h₁, rfl, I', _, sta, u, rfl⟩
  refine sta.leave bb.st hme fun h'' a0 hf hu => ?_
  refine ⟨?_, a, a0, rfl, hf, fun b o e hs hn => ?_⟩
  · obtain ⟨h₂, tk₂, rfl⟩ := sm₁
    exact ⟨_, _, rfl⟩
  · obtain ⟨h1, h2⟩ := I'.prot b o (by simp only [hs, if_true]; exact e)
    obtain ⟨sl, e2⟩ := u b o h1 h2 hn
    obtain ⟨sl', e3⟩ := hu b _ e2 hn
    exact ⟨sl', e3⟩
theorem call_introR {f : Str} {ps : List Str} {body : List Stmt} {m : SR} {ds : List D} {σ : Sg} {C : Addr} (G : Gnd X) (hf : FnIs X f sc ps body) (hs : ScOk sc names ps) (hb : SSR X n sc names body m) (hlen : ds.length = ps.length)
    (h : m X n (ds.map .val ++ List.replicate (names.length - ps.length) .unb) σ (fun C' xx xx => C' = C)) : RaiseSem X (n + 1) f ds σ C := by
  intro a ha
  obtain ⟨a', h1, hf⟩ := hf
  rw [ha] at h1; cases h1
  exact call_atR G hf hs hb hlen h
end
noncomputable def forR (r : SR) (bd : List MV → Sg → (Fl → List MV → Sg → Prop) → Prop) (X : Cx) (n : Nat) (is : List Nat) (R : Addr → List MV → Sg → Prop) : List (List D) → List MV → Sg → Prop
  | [], _, _ => False
  | row :: rs, ρ, σ => r X n (setAll ρ is row) σ R ∨ ∃ P : List MV → Sg → Prop, bd (setAll ρ is row) σ (fun fl ρ' σ' => fl = .next ∧ P ρ' σ') ∧ ∀ ρ' σ', P ρ' σ' → forR r bd X n is R rs ρ' σ'
noncomputable def SR.for_ (is : List Nat) (it : It) (body : List S) (r : SR) : SR := fun X n ρ σ R => it X n is.length ρ σ fun rows σ => forR r (mExecs X n body) X n is R rows ρ σ

section
variable {X : Cx} {n : Nat} {sc : Scope} {names : List Str} {env : Env} {B Φ₀ : Fz} {ρ : List MV} {σ : Sg} {Φ : Fz} {s : Shared} {A : Around}
theorem SR1_for {target : Expr} {is : List Nat} {iter : Expr} {it : It} {body : List Stmt} {mb : List S} {r : SR} {pos : Pos} (ht : TgtOk names sc target is) (hit : SI X n sc names target iter it is.length) (hb : SSs X n sc names body mb) (hbr : SSR X n sc names body r) (hs : notSet iter = true) :
    SR1 X n sc names (.For target iter body [] pos) (.for_ is it mb r) := by
  intro env A s B Φ₀ ρ σ Φ R base l he eo hr bel I h
  refine wpAny_mono (for_core (E := Rzd X env names B Φ₀ base l s Φ R) (Q := fun xx xx xx => False) (T := fun rows ρ σ => forR r (mExecs X n mb) X n is R rows ρ σ) ht hit hs he eo hr I h (fun xx xx h => h) fun row rs ρ' σ' Φ' s' B' q hB hI I' hs' le' => ?_) ?_ fun xx xx h => h
  rotate_left
  · rintro f s₁ ⟨fl, ρ₁, σ₁, Φ₁, _, _, _, _, q⟩
    exact q
  rcases q with q | ⟨P, q, hP⟩
  · have bel' : BelB base B' env l A := ⟨bel.st, bel.me, fun b o e => hB b o (bel.bs b o e), fun e he => let ⟨k, L, o, h1, h2, h3, h4⟩ := bel.fr e he; ⟨k, L, o, h1, h2, hB L o h3, h4⟩⟩
    refine wpAny_mono (hbr env A s' B' Φ₀ _ σ' Φ' R base l he eo hr bel' I' q) (fun xx xx h => h.elim) ?_
    rintro e s₁ ⟨hs₁, a, C, ρ₁, σ₁, Φ₁, h₁, rfl, I₁, le₁, sta, u, q⟩
    refine sta.note bel.st bel.me fun h₂ a0 hh hu => held_back hh bel.me fun h₃ hh' hu' => ?_
    refine ⟨?_, a, C, ρ₁, σ₁, Φ₁, h₁, rfl, hI _ _ _ _ I₁, le'.trans le₁, .held hh', (u.trans hu).trans hu', q⟩
    obtain ⟨h₄, tk₄, rfl⟩ := hs₁
    obtain ⟨h₅, tk₅, rfl⟩ := hs'
    exact ⟨_, _, rfl⟩
  · refine wpAny_mono (hb env A s' B' Φ₀ _ σ' Φ' _ he eo hr I' q) ?_ fun xx xx h => h.elim
    rintro f s₄ ⟨fl, ρ₄, σ₄, Φ₄, hs₄, I₄, le₄, fr, rfl, q₄⟩
    exact ⟨.next, ρ₄, σ₄, Φ₄, hs₄, I₄, le₄, fr, hP _ _ q₄⟩
end
section
variable {M : Model} {A : Around} {E : Value → Shared → Prop}
variable {nm q : Str} {C N : Addr} {bs bm : List Value} {hdct : Bool} {sn : List Str} {sub : List Value} {ab : Bool} {col : Option Bool} {dd : Option Addr} {k0 k1 k2 k3 k5 : Option Value} {newId : String}
variable {nm' q' : Str} {V N' : Addr} {bs' bm' : List Value} {hdct' : Bool} {sn' : List Str} {sub' : List Value} {ab' : Bool} {col' : Option Bool} {dd' : Option Addr} {k0' k1' k2' k3' k5' : Option Value} {newId' : String}
theorem exc_under {h : Heap} {g : Array GenState} {d : Drawn} {t : Nat} {os : OsState} {e : Addr} {oe : Obj} {Q : Bool → Shared → Prop}
    (hC : h.get? C = some (excClassObj nm q C N bs bm hdct sn sub ab col dd k0 k1 k2 k3 k5 newId)) (hV : h.get? V = some (excClassObj nm' q' V N' bs' bm' hdct' sn' sub' ab' col' dd' k0' k1' k2' k3' k5' newId'))
    (he : h.get? e = some oe) (hcls : oe.cls = .ref C) (hbase : bm'.contains (.type "BaseException") = true) (hu : bm.contains (.ref V) = true)
    (hq : Q true ⟨h, g, d, t, os⟩) : wpAny M A (excMatches (.ref e) (.ref V)) Q E ⟨h, g, d, t, os⟩ := by
  have hcB : (Value.ref V :: bm').contains (.type "BaseException") = true := by rw [List.contains_cons, hbase, Bool.or_true]
  have hcC : (Value.ref C :: bm).contains (.ref V) = true := by rw [List.contains_cons, hu, Bool.or_true]
  have f := tc_notTuple
  unfold excMatches
  repeat (first | (with_reducible refine wpAny_loadPart_at he ?_; rw [hcls]) | with_reducible refine wpAny_loadPart_at hC ?_ | with_reducible refine wpAny_loadPart_at hV ?_ | (with_reducible refine wpAny_isSubtype_exc hC ?_; rw [hcC]) | (with_reducible refine wpAny_isSubtype_exc hV ?_; rw [hcB]) | wp_step)
  exact hq
end
noncomputable def Under (X : Cx) (V C : Addr) : Prop := (∃ cn, ExcAt X cn C) ∧ ∀ {nm q N bs bm hdct sn sub ab col dd k0 k1 k2 k3 k5 newId}, X.g.get? C = some (excClassObj nm q C N bs bm hdct sn sub ab col dd k0 k1 k2 k3 k5 newId) → bm.contains (.ref V) = true

noncomputable def Cx.hot (X : Cx) (h : Heap) : Cx := { X with g := h, calm := false }
theorem Gnd.hot {X : Cx} {h : Heap} (G : Gnd X) (k : ∀ b o, X.g.get? b = some o → h.get? b = some o) : Gnd (X.hot h) := ⟨G.gl.keeps k, G.bl.keeps k, G.lim.keeps k, G.blt⟩
theorem FnAt.hot {X : Cx} {h : Heap} {a : Addr} {sc : Scope} {ps : List Str} {body : List Stmt} (f : FnAt X a sc ps body) (k : ∀ b o, X.g.get? b = some o → h.get? b = some o) : FnAt (X.hot h) a sc ps body :=
  let ⟨o, fd, h1, h2, h3, h4, h5, h6, h7, h8, h9⟩ := f; ⟨o, fd, k _ _ h1, h2, h3, h4, h5, h6, h7, h8.keeps k, h9⟩
theorem FnIs.hot {X : Cx} {h : Heap} {f : Str} {sc : Scope} {ps : List Str} {body : List Stmt} (x : FnIs X f sc ps body) (k : ∀ b o, X.g.get? b = some o → h.get? b = some o) : FnIs (X.hot h) f sc ps body :=
  let ⟨a, h1, h2⟩ := x; ⟨a, h1, h2.hot k⟩

structure ExcObj (h : Heap) (e C : Addr) : Prop where
  at_ : ∃ o vs, h.get? e = some o ∧ o.cls = .ref C ∧ o.data = .fields vs

noncomputable def Around1 (g : Heap) (Φ : Fz) (h : Heap) (l : List Env) : Prop := ∀ e ∈ l, e.scope.kind ≠ .module ∧ ∃ L o, e.frame = some L ∧ h.get? L = some o ∧ nf o ∧ g.get? L = none ∧ Φ L = none

section
variable {X : Cx} {n : Nat} {sc : Scope} {names : List Str}
theorem call_caught {a : Addr} {ps : List Str} {tb rest : List Stmt} {m : SR} {ds : List D} {V : Addr} {i : Nat} {x vn wn : Str} {np wp xp hp wpos rp tp : Pos} {W : Addr → Str}
    (G : Gnd X) (hf : FnAt X a sc ps (.Try tb [.ExceptHandler (some (.Name vn np)) (some x) [.Return (some (.Call (.Name wn wp) [.Name x xp] [] wpos)) rp] hp] [] [] tp :: rest)) (hs : ScOk sc names ps) (hb : SSR X n sc names tb m) (hlen : ds.length = ps.length)
    (hi : names[i]? = some x) (hx : sc.names.lookup x = some .local) (hpx : plainName x = true) (hv : sc.names.lookup vn = some .globalImplicit) (hvd : (vn == ("__debug__" : Str)) = false) (hV : ExcAt X vn V) (hwk : sc.names.lookup wn = some .globalImplicit) (hwd : (wn == ("__debug__" : Str)) = false) (hwf : IsFn X wn) (hnc : ∀ k, cellsFrom k sc.names [] = [])
    (hm : m X n (ds.map .val ++ List.replicate (names.length - ps.length) .unb) empS (fun C xx σ' => σ' = empS ∧ Under X V C ∧
      ∀ h e, (∀ b o, X.g.get? b = some o → h.get? b = some o) → ExcObj h e C → CallSem (X.hot h) n wn [.ref e] empS fun d xx => d = .str (W C)))
    {A : Around} {s : Shared} {Φ : Fz} {vs : List Value} {l : List Env} (hroom : Room X (n + 1) A) (hfr : A.frames = some l) (hl : Around1 X.g Φ s.heap l) (ok : Ok X.g empS Φ s.heap) (hr : RdAll Φ vs ds) :
    codeAny (model X.prog X.w) A (.call (.ref a) ⟨vs, []⟩) (fun r s' => ∃ C t, r = .ok (.ret (.str (W C) t)) ∧ (∃ h' tk, s' = { s with heap := h', toks := tk }) ∧ Under X V C ∧
      (∀ b o, s.heap.get? b = some o → b ∉ l.filterMap (·.frame) → s'.heap.get? b = some o) ∧ ∀ b o, s.heap.get? b = some o → nf o → ∃ sl, s'.heap.get? b = some { o with slots := sl }) s := by
  refine call_open (n := n) G hf hs hlen hroom ok hr fun env s₁ esc eo hme hcl sm₁ I => ?_
  rw [hnc] at hcl
  generalize hbase : PySem.W.hideAll s.heap (l.filterMap (·.frame)) = base
  have ofb : ∀ b o, base.get? b = some o → s.heap.get? b = some o := fun b o e => PySem.W.of_hideAll (l.filterMap (·.frame)) (by rw [hbase]; exact e)
  have bfr : ∀ b, b ∈ l.filterMap (·.frame) → base.get? b = none := fun b hb => by rw [← hbase]; exact PySem.W.hideAll_none _ hb
  have bin : ∀ b o, s.heap.get? b = some o → b ∉ l.filterMap (·.frame) → base.get? b = some o := fun b o e hn => by rw [← hbase]; exact PySem.W.hideAll_get _ e hn
  have gin : ∀ b o, X.g.get? b = some o → base.get? b = some o := fun b o e => bin b o (ok.base b o e).1 fun hb => by
    obtain ⟨en, he, hef⟩ := List.mem_filterMap.mp hb
    obtain ⟨_, L, _, h1, _, _, h2, _⟩ := hl en he
    rw [hef] at h1; cases h1; rw [h2] at e; cases e
  have bb : BelB base (fun b => if empS b = none then s.heap.get? b else none) env l (A.deeper env) := by
    refine ⟨Around.frames_deeper hfr, hme, fun b o e => ?_, fun e he => ?_⟩
    · simp only [empS, if_true]; exact ofb b o e
    · obtain ⟨k, L, o, h1, h2, h3, _, _⟩ := hl e he
      exact ⟨k, L, o, h1, bfr L (List.mem_filterMap.mpr ⟨e, he, h1⟩), by simp only [empS, if_true]; exact h2, h3⟩
  refine wpAny_execs_cons (wpAny_Try_except ?_)
  refine wpAny_mono (hb env _ s₁ _ Φ _ empS Φ _ base l esc eo hroom.deeper bb I hm) (fun xx xx h => h.elim) ?_
  rintro e s' ⟨⟨h', tk, rfl⟩, e, C, ρ', σ', Φ', h₁, rfl, I', le', sta, u, rfl, hUn, hW⟩
  obtain ⟨⟨cn, hC⟩, hU⟩ := hUn
  refine sta.note bb.st hme fun h₂ a0 hh hu => ?_
  refine wpAny_landsW hh fun h₃ hfl hu₃ => ?_
  have g3 : ∀ b o, X.g.get? b = some o → h₃.get? b = some o := fun b o e => hfl.1 b o (gin b o e)
  have ok₃ : Ok X.g empS (fun xx => none) h₃ := ⟨fun b o e => ⟨g3 b o e, rfl⟩, (fun xx xx e => by cases e), fun xx xx e => by cases e⟩
  refine wpAny_handleBy_cons (codeAny_handlers_test (any_no (name_fn G ok₃ eo (by rw [Env.kindOf_sc esc]; exact hv) hV.bound hvd ?_))) (by intro q; cases q)
  obtain ⟨oe, hoe, hoec⟩ := hfl.there
  obtain ⟨tl, N, nm, qn, bs, hdct, sn, sub, ab, col, dd, k0, k1, k2, k3, k5, mN, hCo, hN, hni, T⟩ := hC.obj
  obtain ⟨tl', N', nm', qn', bs', hdct', sn', sub', ab', col', dd', k0', k1', k2', k3', k5', mN', hVo, hN', hni', T'⟩ := hV.obj
  refine exc_under (g3 _ _ hCo) (g3 _ _ hVo) hoe hoec (T'.hasType F.excBase_ValueError.hasBase) (hU hCo) ?_
  refine codeAny_handlers_suite_as ?_
  refine lands_againW hfl fun h₄ hfl₄ hu₄ => ?_
  obtain ⟨m₀, cm, μ, F, hB⟩ := I'.fr
  have up : ∀ b o, h₁.get? b = some o → nf o → ∃ sl, h₄.get? b = some { o with slots := sl } := fun b o e hn => (((u.trans hu).trans hu₃).trans hu₄) b o e rfl hn
  have own0 : ∀ b, Own env (fun xx => none) b → s.heap.get? b = none := fun b hb => by
    have ho : Own env μ b := by
      rcases hb with hb | hb | ⟨_, hb⟩
      · exact .inl hb
      · exact .inr (.inl hb)
      · cases hb
    have := hB b ho
    simpa [empS] using this
  generalize hg' : PySem.W.hideAll h₄ (env.locals :: env.cells.map (·.2)) = g'
  have og : ∀ b o, g'.get? b = some o → h₄.get? b = some o := fun b o e => PySem.W.of_hideAll (env.locals :: env.cells.map (·.2)) (by rw [hg']; exact e)
  have gi : ∀ b o, h₄.get? b = some o → ¬ Own env (fun xx => none) b → g'.get? b = some o := fun b o e hn => by
    rw [← hg']; refine PySem.W.hideAll_get _ e fun hb => hn ?_
    rcases List.mem_cons.mp hb with hb | hb
    · exact .inl hb
    · obtain ⟨⟨n, c⟩, hc, rfl⟩ := List.mem_map.mp hb
      exact .inr (.inl ⟨n, hc⟩)
  have gn : ∀ b, Own env (fun xx => none) b → g'.get? b = none := fun b hb => by
    rw [← hg']; refine PySem.W.hideAll_none _ ?_
    rcases hb with hb | ⟨n, hb⟩ | ⟨_, hb⟩
    · rw [hb]; exact .head _
    · exact .tail _ (List.mem_map.mpr ⟨_, hb, rfl⟩)
    · cases hb
  have sg : ∀ b o, s.heap.get? b = some o → ¬ Own env (fun xx => none) b := fun b o e hb => by rw [own0 b hb] at e; cases e
  have keepg : ∀ b o, X.g.get? b = some o → g'.get? b = some o := fun b o e => gi b o (hfl₄.1 b o (gin b o e)) (sg b o (ok.base b o e).1)
  have X' : (X.hot g').prog = X.prog ∧ (X.hot g').w = X.w := ⟨rfl, rfl⟩
  have ok₄ : Ok (X.hot g').g empS (fun xx => none) h₄ := ⟨fun b o e => ⟨og b o e, rfl⟩, (fun xx xx e => by cases e), fun xx xx e => by cases e⟩
  have F₄ : FrameX (X.hot g').g env names (List.replicate names.length .unb) empS (fun xx => none) h₄ m₀ cm (fun xx => none) := {
    nd := F.nd
    len := by simp
    ns := by
      obtain ⟨o, es, ep, ho, hd, r⟩ := F.ns
      obtain ⟨sl, hs⟩ := up _ o ho fun vs q => by rw [hd] at q; cases q
      exact ⟨_, es, ep, hs, hd, r⟩
    cell := fun n c hc => by rw [hcl] at hc; cases hc
    cellsIn := fun n c hc => by rw [hcl] at hc; cases hc
    hasCell := F.hasCell
    apart := F.apart
    offc := F.offc
    priv := fun b hb => ⟨rfl, rfl, gn b hb⟩
    vars := fun j y hj xx => by
      have : (List.replicate names.length MV.unb).getD j .unb = .unb := by
        simp only [List.getD, List.getElem?_replicate]
        split <;> rfl
      rw [this]; rfl
    inj := fun xx xx xx e => by cases e
    offm := fun xx xx e => by cases e
    live := fun xx xx e => by cases e }
  have I₄ : Inv (X.hot g') env names (fun xx => none) (fun xx => none) (List.replicate names.length .unb) empS (fun xx => none) h₄ :=
    ⟨ok₄, Fz.le.refl _, fun xx xx e => by (cases e), fun xx xx e => absurd rfl e, m₀, cm, _, F₄, fun xx xx => rfl⟩
  refine any_no (Inv.storeV (X := X.hot g') (s := { s₁ with heap := h₄, toks := tk }) (d := .ref e) I₄ eo hi (.inl (by rw [Env.kindOf_sc esc]; exact hx)) (.ref e) fun s₅ hs₅ I₅ => ?_)
  have hilt : i < names.length := (List.getElem?_eq_some_iff.mp hi).1
  have eob : ExcObj g' e C := by
    obtain ⟨oe, ws, h1, h2, h3, _⟩ := hfl₄.first
    refine ⟨oe, ws, gi e oe h1 fun ho => ?_, h2, h3⟩
    have nfo : ∀ o, h₁.get? e = some o → nf o → False := fun o ho hn => by
      obtain ⟨sl, hs⟩ := up e o ho hn
      rw [h1] at hs; cases hs; exact hn ws h3
    rcases ho with ho | ⟨n, ho⟩ | ⟨_, ho⟩
    · obtain ⟨o, es, ep, ho', hd, _⟩ := F.ns
      exact nfo o (ho ▸ ho') fun vs q => by rw [hd] at q; cases q
    · rw [hcl] at ho; cases ho
    · cases ho
  have sem : mExecs (X.hot g') n [.ret (.call wn [.var i])] ((List.replicate names.length .unb).set i (.val (.ref e))) empS fun fl xx xx => fl = .ret (.str (W C)) := by
    show MV.onVal _ _
    rw [getD_set_self (by simpa using hilt)]
    intro aw haw
    exact (hW g' e keepg eob aw haw).mono (Nat.le_refl _) fun d σ q => by rw [q]
  have roomH : Room (X.hot g') n ((A.deeper env).mark (some (.ref e))) := ⟨(fun q => by cases q), (hroom.deeper (env := env)).2⟩
  have der : SSs (X.hot g') n sc names [.Return (some (.Call (.Name wn wp) [.Name x xp] [] wpos)) rp] [.ret (.call wn [.var i])] :=
    SSs_cons (SS_ret (SE_call (G.hot keepg) (let ⟨a, o, fd, h1, h2, h3⟩ := hwf; ⟨a, o, fd, h1, keepg _ _ h2, h3⟩) (SEs_cons (SE_var hi (by unfold accS; rw [hx]) hpx) SEs_nil rfl) hwk rfl hwd)) SSs_nil
  refine wpAny_mono (der env _ s₅ (fun xx => none) (fun xx => none) _ empS (fun xx => none) _ esc eo roomH I₅ sem) ?_ fun xx xx h => h.elim
  rintro f s₆ ⟨fl, ρ₆, σ₆, Φ₆, hs₆, I₆, _, frl, rfl⟩
  cases f <;> simp only [FlRel] at frl
  cases frl with
  | str _ t =>
    obtain ⟨m₆, cm₆, μ₆, F₆, _⟩ := I₆.fr
    refine wpAny_nameGoes (by rw [Env.kindOf_sc esc]; exact hx) F₆.ns (by rw [eo.kind]; rfl) fun h₇ m₇ hn₇ hs₇ => ?_
    have last : ∀ b o, g'.get? b = some o → h₇.get? b = some o := fun b o e => (hs₇.2 b fun q => by rw [q, gn _ (.inl rfl)] at e; cases e).trans (I₆.ok.base b o e).1
    refine ⟨C, t, rfl, ?_, ⟨⟨cn, hC⟩, hU⟩, fun b o e hn => last b o (gi b o (hfl₄.1 b o (bin b o e hn)) (sg b o e)), fun b o e hn => ?_⟩
    · obtain ⟨_, _, rfl⟩ := hs₆
      obtain ⟨_, _, rfl⟩ := hs₅
      obtain ⟨_, _, rfl⟩ := sm₁
      exact ⟨_, _, rfl⟩
    · obtain ⟨h1, _⟩ := I'.prot b o (by simp only [empS, if_true]; exact e)
      obtain ⟨sl, h2⟩ := up b o h1 hn
      exact ⟨sl, last b _ (gi b _ h2 (sg b o e))⟩
end
noncomputable def CallX (X : Cx) (n : Nat) (f : Str) (ds : List D) (P : D → Prop) : Prop := ∀ a, X.mg f = some (.ref a) → ∀ A s Φ vs l, Room X n A → A.frames = some l → Around1 X.g Φ s.heap l → Ok X.g empS Φ s.heap → RdAll Φ vs ds →
  codeAny (model X.prog X.w) A (.call (.ref a) ⟨vs, []⟩) (fun r s' => ∃ v d, r = .ok (.ret v) ∧ (∀ Φ, Rd Φ v d) ∧ P d ∧ (∃ h' tk, s' = { s with heap := h', toks := tk }) ∧
    (∀ b o, s.heap.get? b = some o → b ∉ l.filterMap (·.frame) → s'.heap.get? b = some o) ∧ ∀ b o, s.heap.get? b = some o → nf o → ∃ sl, s'.heap.get? b = some { o with slots := sl }) s
theorem CallX.of_sem {X : Cx} {n : Nat} {f : Str} {ds : List D} {P : D → Prop} (h : CallSem X n f ds empS fun d xx => d.atom = true ∧ P d) : CallX X n f ds P := by
  intro a ha A s Φ vs l hr _ _ ok r
  refine codeAny_mono (h a ha A s Φ vs hr ok r) fun r s' z => ?_
  cases r with
  | error e => exact z.elim
  | ok f =>
    cases f with
    | ret v =>
      obtain ⟨d, σ', Φ', st, rd, hd, p⟩ := z
      exact ⟨v, d, rfl, fun xx => rd.atom hd, p, st.same, fun b o e xx => st.keep b o e rfl, fun b o e xx => ⟨o.slots, st.keep b o e rfl⟩⟩
    | _ => exact z.elim
theorem CallX.mono {X : Cx} {n : Nat} {f : Str} {ds : List D} {P P' : D → Prop} (h : CallX X n f ds P) (hp : ∀ d, P d → P' d) : CallX X n f ds P' :=
  fun a ha A s Φ vs l hr hf hl ok r => codeAny_mono (h a ha A s Φ vs l hr hf hl ok r) fun _ _ ⟨v, d, h1, h2, h3, h4⟩ => ⟨v, d, h1, h2, hp d h3, h4⟩

noncomputable def SSf (X : Cx) (n : Nat) (sc : Scope) (names : List Str) (st : Stmt) (m : S) : Prop :=
  ∀ env A s B Φ₀ ρ σ Φ Q, env.scope = sc → EnvOk env → Room X n A → A.frames = some [env] → env.frame = some env.locals → Inv X env names B Φ₀ ρ σ Φ s.heap → mExec X n m ρ σ Q → wpAny (model X.prog X.w) A (exec st env) (Ex X env names B Φ₀ s Φ Q) No s
noncomputable def SSsf (X : Cx) (n : Nat) (sc : Scope) (names : List Str) (sts : List Stmt) (ms : List S) : Prop :=
  ∀ env A s B Φ₀ ρ σ Φ Q, env.scope = sc → EnvOk env → Room X n A → A.frames = some [env] → env.frame = some env.locals → Inv X env names B Φ₀ ρ σ Φ s.heap → mExecs X n ms ρ σ Q → wpAny (model X.prog X.w) A (execs sts env) (Ex X env names B Φ₀ s Φ Q) No s
noncomputable def S.told (i : Nat) (xs : List Nat) (f : Str) (args : List E) : S := fun X n ρ σ Q => mEvals X n args (frzAll ρ xs) empS fun ds xx => CallX X n f ds fun d => Q .next (ρ.set i (.val d)) σ

section
variable {X : Cx} {n : Nat} {sc : Scope} {names : List Str} {env : Env} {B Φ₀ : Fz} {ρ : List MV} {σ : Sg} {Φ : Fz} {s : Shared} {A : Around}
theorem SSf.of {st : Stmt} {m : S} (h : SS X n sc names st m) : SSf X n sc names st m := fun env A s B Φ₀ ρ σ Φ Q he eo hr xx xx I q => h env A s B Φ₀ ρ σ Φ Q he eo hr I q
theorem SSsf.of {sts : List Stmt} {ms : List S} (h : SSs X n sc names sts ms) : SSsf X n sc names sts ms := fun env A s B Φ₀ ρ σ Φ Q he eo hr xx xx I q => h env A s B Φ₀ ρ σ Φ Q he eo hr I q
theorem SSsf_cons {st : Stmt} {sts : List Stmt} {m : S} {ms : List S} (h1 : SSf X n sc names st m) (h2 : SSsf X n sc names sts ms) : SSsf X n sc names (st :: sts) (m :: ms) := by
  intro env A s B Φ₀ ρ σ Φ Q he eo hr hf hm I h
  simp only [mExecs] at h
  refine wpAny_execs_cons (wpAny_mono (h1 env A s B Φ₀ ρ σ Φ _ he eo hr hf hm I h) ?_ fun xx xx h => h.elim)
  rintro f s₁ ⟨fl, ρ₁, σ₁, Φ₁, ⟨h', tk, rfl⟩, I₁, le₁, fr, q⟩
  cases fl with
  | next =>
    cases f <;> simp only [FlRel] at fr
    refine wpAny_mono (h2 env A _ B Φ₀ ρ₁ σ₁ Φ₁ _ he eo hr hf hm I₁ q) ?_ fun xx xx h => h.elim
    rintro f s₂ ⟨fl, ρ₂, σ₂, Φ₂, ⟨h'', tk', rfl⟩, I₂, le₂, fr, q⟩
    exact ⟨fl, ρ₂, σ₂, Φ₂, ⟨h'', tk', rfl⟩, I₂, le₁.trans le₂, fr, q⟩
  | ret d =>
    cases f <;> simp only [FlRel] at fr
    exact ⟨.ret d, ρ₁, σ₁, Φ₁, ⟨h', tk, rfl⟩, I₁, le₁, fr, q⟩
theorem SSsf_freeze {sts : List Stmt} {ms : List S} {i : Nat} {x : Str} (hi : names[i]? = some x) (ha : accS sc x = true) (h2 : SSsf X n sc names sts ms) : SSsf X n sc names sts (.freeze i :: ms) := by
  intro env A s B Φ₀ ρ σ Φ Q he eo hr hf hm I h
  obtain ⟨ds, e, h⟩ := MV.mt_of h
  obtain ⟨Φ', le, I'⟩ := I.freeze hi (acc_of he ha) e
  refine wpAny_mono (h2 env A s B Φ₀ _ σ Φ' _ he eo hr hf hm I' h) ?_ fun xx xx h => h.elim
  rintro f s₂ ⟨fl, ρ₂, σ₂, Φ₂, hs, I₂, le₂, fr, q⟩
  exact ⟨fl, ρ₂, σ₂, Φ₂, hs, I₂, le.trans le₂, fr, q⟩

theorem Inv.slots {h h' : Heap} (I : Inv X env names B Φ₀ ρ σ Φ h) (k : ∀ b o, h.get? b = some o → b ≠ env.locals → h'.get? b = some o) (u : ∀ b o, h.get? b = some o → nf o → ∃ sl, h'.get? b = some { o with slots := sl }) : Inv X env names B Φ₀ ρ σ Φ h' := by
  obtain ⟨m, cm, μ, F, hB⟩ := I.fr
  have p := F.priv _ (.inl rfl)
  have ne : ∀ b, σ b ≠ none ∨ Φ b ≠ none ∨ X.g.get? b ≠ none ∨ B b ≠ none → b ≠ env.locals := fun b hb q => by
    subst q
    rcases hb with hb | hb | hb | hb
    · exact hb p.1
    · exact hb p.2.1
    · exact hb p.2.2
    · exact hb (hB _ (.inl rfl))
  refine ⟨⟨fun b o e => ⟨k b o (I.ok.base b o e).1 (ne b (.inr (.inr (.inl (by rw [e]; simp))))), (I.ok.base b o e).2⟩, fun b o e => ⟨k b o (I.ok.frz b o e).1 (ne b (.inr (.inl (by rw [e]; simp)))), (I.ok.frz b o e).2⟩,
    fun a t e => (I.ok.trk a t e).mono (Fz.le.refl _) fun o ho => k a o ho (ne a (.inl (by rw [e]; simp)))⟩, I.mono0, fun b o e => ⟨k b o (I.prot b o e).1 (ne b (.inr (.inr (.inr (by rw [e]; simp))))), (I.prot b o e).2⟩, I.priv, m, cm, μ, ?_, hB⟩
  exact { F with
    ns := by
      obtain ⟨o, es, ep, ho, hd, r⟩ := F.ns
      obtain ⟨sl, hs⟩ := u _ o ho fun vs q => by rw [hd] at q; cases q
      exact ⟨_, es, ep, hs, hd, r⟩
    cell := fun n c hc => let ⟨o, ho, hd⟩ := F.cell n c hc; ⟨o, k c o ho (F.offc n c (mem_of_lookup hc)), hd⟩
    cellsIn := fun n c hc => let ⟨o, ho⟩ := F.cellsIn n c hc; ⟨o, k c o ho (F.offc n c hc)⟩
    vars := fun i n hn ha => (F.vars i n hn ha).mono (Fz.le.refl _) fun a o e ho => k a o ho (F.offm i a e).1
    live := fun i a e => let ⟨o, ho⟩ := F.live i a e; ⟨o, k a o ho (F.offm i a e).1⟩ }

theorem SSf_told {i : Nat} {x f : Str} {y : Expr} {ys : List Expr} {es : List E} {xs : List Nat} {fp p pos cpos : Pos} (G : Gnd X) (hfn : IsFn X f) (hi : names[i]? = some x) (hk : stS sc x = true) (hl : lendS sc names xs = true) (hx : SEs X n sc names (y :: ys) es)
    (hkf : sc.names.lookup f = some .globalImplicit) (hs : (y :: ys).all notStar = true) (hd : (f == ("__debug__" : Str)) = false) : SSf X n sc names (.Assign [.Name x p] (.Call (.Name f fp) (y :: ys) [] cpos) pos) (.told i xs f es) := by
  intro env A s B Φ₀ ρ σ Φ Q he eo hr hf hm I h
  obtain ⟨m, cm, μ, F, hB⟩ := I.fr
  obtain ⟨Φ', le, ok', F'⟩ := lend he xs ρ Φ hl I.ok.emp ⟨m, cm, μ, F.emp⟩
  simp only [List.all_cons, Bool.and_eq_true] at hs
  refine wpAny_Assign_Name (Call_Name rfl ?_) (swaps_false rfl)
  obtain ⟨a, o, fd, h1, h2, h3⟩ := hfn
  refine name_fn G ok' eo (by rw [Env.kindOf_sc he]; exact hkf) h1 hd ?_
  refine callWith_def (o := o) (fd := fd) h3 (wpAny_mono (hx env A s Φ' _ empS _ cpos he eo hr ok' F' h) ?_ fun xx xx h => h.elim) (starEach_cons hs.1)
  rintro vs s₁ ⟨ds, σ₁, Φ₁, st, r, q⟩
  have e0 : σ₁ = empS ∨ True := .inr trivial
  refine ⟨(st.ok.base _ _ h2).1, wpAny_call ?_⟩
  have ar : Around1 X.g Φ₁ s₁.heap [env] := by
    intro e he'
    obtain ⟨m', cm', μ', F''⟩ := F'
    have F₁ := F''.step st
    obtain rfl : e = env := by simpa using he'
    obtain ⟨o, es, ep, ho, hd, _⟩ := F₁.ns
    have p := F₁.priv _ (.inl rfl)
    exact ⟨by rw [eo.kind]; decide, _, o, hm, ho, (fun vs q => by rw [hd] at q; cases q), p.2.2, p.2.1⟩
  refine codeAny_mono (q a h1 A s₁ Φ₁ vs [env] hr hf ar st.ok.emp r) fun r s₂ z => ?_
  obtain ⟨v, d, rfl, rv, q, hs₂, k, u⟩ := z
  have I₁ := I.step (st.unlend I.ok)
  have I₂ : Inv X env names B Φ₀ ρ σ Φ s₂.heap := I₁.slots (fun b o e hb => k b o e (by simpa [hm] using hb)) u
  refine I₂.storeV eo hi (st_of he hk) (rv Φ) fun s' hs' I' => ?_
  obtain ⟨_, _, rfl⟩ := hs'
  obtain ⟨_, _, rfl⟩ := hs₂
  obtain ⟨_, _, rfl⟩ := st.same
  exact ⟨.next, _, σ, Φ, ⟨_, _, rfl⟩, I', Fz.le.refl _, trivial, q⟩

theorem call_law {a : Addr} {ps : List Str} {body : List Stmt} {ms : List S} {ds : List D} {Q : D → Prop} (G : Gnd X) (hf : FnAt X a sc ps body) (hs : ScOk sc names ps) (hb : SSsf X n sc names body ms) (hlen : ds.length = ps.length)
    (h : mExecs X n ms (ds.map .val ++ List.replicate (names.length - ps.length) .unb) empS (fun fl xx xx => Q (flD fl))) {s : Shared} {Φ : Fz} {vs : List Value} {A : Around} (hroom : Room X (n + 1) A) (hfr : A.frames = some []) (ok : Ok X.g empS Φ s.heap) (hr : RdAll Φ vs ds) :
    codeAny (model X.prog X.w) A (.call (.ref a) ⟨vs, []⟩) (fun r s' => ∃ v d Φ', r = .ok (.ret v) ∧ Rd Φ' v d ∧ Q d ∧ (∃ h' tk, s' = { s with heap := h', toks := tk }) ∧ ∀ b o, s.heap.get? b = some o → s'.heap.get? b = some o) s := by
  refine call_open (n := n) G hf hs hlen hroom ok hr fun env s₁ esc eo hme xx sm₁ I => ?_
  refine wpAny_mono (hb env _ s₁ _ Φ _ empS Φ _ esc eo hroom.deeper (Around.frames_deeper hfr) hme I h) ?_ fun xx xx h => h.elim
  rintro fl s₂ ⟨fl', ρ', σ', Φ', hs₂, I₂, le, fr, q⟩
  have sm : ∃ h' tk, s₂ = { s with heap := h', toks := tk } := by
    obtain ⟨h', tk, rfl⟩ := sm₁
    obtain ⟨h'', tk', rfl⟩ := hs₂
    exact ⟨h'', tk', rfl⟩
  have kp : ∀ b o, s.heap.get? b = some o → s₂.heap.get? b = some o := fun b o e => (I₂.prot b o (by simp only [empS, if_true]; exact e)).1
  cases fl' with
  | next =>
    cases fl <;> simp only [FlRel] at fr
    exact ⟨_, _, Φ', rfl, .none, q, sm, kp⟩
  | ret d =>
    cases fl <;> simp only [FlRel] at fr
    exact ⟨_, _, Φ', rfl, fr, q, sm, kp⟩
end
section
open PySem.W PySem.Spec PySem.Calls PySem.Builtin.ObjectAttr PySem.Builtin PySem.Builtin.Getset_descriptor
noncomputable def isaChk (K : Frag) (C : Addr) : Bool := findIn K (.ref C) "__getattribute__" == some (some (.builtin "BaseException.__getattribute__")) && findIn K (.ref C) "__getattr__" == some none &&
  findIn K (.ref C) "__class__" == some (some (.builtin "object.__class__")) && specialIn K (.builtin "object.__class__") "__get__" == some (some (.builtin "getset_descriptor.__get__")) && takesIn K (.builtin "object.__class__") == some true &&
  mroIn K C (.type "object") == some true && mroIn K C (.type "BaseException") == some true

section
variable {prog : Program} {w : World} {A : Around} {E : Value → Shared → Prop} {s : Shared} {K : Frag} {e C : Addr} {oe : Obj}
theorem looks_exc (M : Model) {h : Heap} (he : h.get? e = some oe) (hc : oe.cls = .ref C) : Looks M h (typeOf (.ref e)) (.ref C) := by
  rw [← hc]; exact (Looks.ld he).andThen .now
theorem exc_class_get {R : Result → Shared → Prop} {tp : Value} (X : K.In s.heap) (he : s.heap.get? e = some oe) (hc : oe.cls = .ref C) (hm : mroIn K C (.type "object") = some true)
    (h : R (.ok (.ret (.ref C))) s) : codeAny (model prog w) A (.call (.builtin "getset_descriptor.__get__") ⟨[.builtin "object.__class__", .ref e, tp], []⟩) R s := by
  obtain ⟨hh, g, dr, t, os⟩ := s
  have L0 := looks_exc (model prog w) he hc
  have L1 := looks_mroIn (M := model prog w) X hm
  refine codeAny_call_builtin KF.slot_gs.plain KF.entry_gs (KF.slot_gs.check _ _ _ _ _ _ _ _ KF.type_class (KF.args_gs _ _ _) ?_)
  unfold Builtin.«getset_descriptor.__get__» descrGet
  rw [dga_obj]
  refine wpAny_bind (wpAny_pure ?_)
  unfold descrGetter descrCheckInstance descrNameAndClass isInstance
  simp only [KF.owner_class]
  repeat lk
  refine ⟨Code.quiet_builtin _ (by decide +kernel), codeAny_builtin KF.entry_class ?_⟩
  unfold Builtin.«object.__class__» shownTypeOf
  repeat lk
  exact h

theorem exc_getattr {Q : Option Value → Shared → Prop} (X : K.In s.heap) (he : s.heap.get? e = some oe) (hc : oe.cls = .ref C) (hk : isaChk K C = true) (h : Q (some (.ref C)) { s with toks := s.toks + 1 }) :
    wpAny (model prog w) A (getAttr? (.ref e) "__class__") Q E s := by
  simp only [isaChk, Bool.and_eq_true, beq_iff_eq] at hk
  obtain ⟨⟨⟨⟨⟨⟨h1, h2⟩, h3⟩, h4⟩, h5⟩, h6⟩, h7⟩ := hk
  obtain ⟨hh, g, d, t, os⟩ := s
  have L0 := looks_exc (model prog w) he hc
  have L1 := looks_findIn (M := model prog w) X h1
  have L2 := looks_findIn (M := model prog w) X h2
  have L3 := looks_findIn (M := model prog w) X h3
  have L4 := looks_specialIn (M := model prog w) X h4
  have L5 := looks_takesIn (M := model prog w) X h5
  have L7 := looks_mroIn (M := model prog w) X h7
  have ga := F.excAttr_ValueError.ga
  unfold getAttr? getAttrBy? getAttrBy
  refine wpAny_bind (wpAny_mkText (wpAny_bind (wpAny_attempt (wpAny_holding (wpAny_bind (L0.at (wpAny_bind (L1.at ?_))))))))
  dsimp only
  rw [if_neg (by rw [show (Value.builtin "BaseException.__getattribute__" == Value.builtin "object.__getattribute__") = false by decide +kernel, Bool.and_false]; exact Bool.noConfusion)]
  unfold getAttrByItsOwn hookBefore
  refine wpAny_bind ?_
  rw [if_pos (show onTheHeap (Value.ref C) = true from rfl)]
  refine L2.at ?_
  refine wpAny_bind (wpAny_attempt (wpAny_holding ?_))
  unfold callGetattribute
  rw [if_neg (by simp)]
  unfold boundAndCalled
  rw [ga.bind]
  refine wpAny_bind (wpAny_pure ?_)
  have hi : Looks (model prog w) hh (isInstance (.ref e) (.type "BaseException")) true := L0.andThen L7
  have hk : builtinKind "BaseException.__getattribute__" = some .slot := by decide +kernel
  have hs : splitId "BaseException.__getattribute__" = some ("BaseException", "__getattribute__") := by decide +kernel
  refine wpAny_call (codeAny_call_builtin ga.plain F.entry_bexc_ga ?_)
  have ha := F.args_bexc_ga (.ref e) (.str "__class__" t)
  refine check_slot (i := "BaseException.__getattribute__") (self := .ref e) (rest := [.str "__class__" t]) (kw := []) hk hs hi ha ?_
  unfold Builtin.«object.__getattribute__»
  repeat lk
  show wpAny _ _ (run (.call (.builtin "getset_descriptor.__get__") ⟨[.builtin "object.__class__", .ref e, .ref C], []⟩)) _ _ _
  refine wpAny_run (exc_class_get X he hc h6 ?_)
  refine wpAny_pure (wpAny_pure ?_)
  dsimp only
  exact handed_on rfl (wpAny_pure h)

theorem isa_self {Q : Value → Shared → Prop} (he : s.heap.get? e = some oe) (hc : oe.cls = .ref C) (h : Q (.bool true) s) : wpAny (model prog w) A (call (.builtin "isinstance") [.ref e, .ref C]) Q E s := by
  refine call_isinstance (S := fun xx R s => s.heap.get? e = some oe ∧ R (.ok (.ret (.bool true))) s) (fun P W A' R' s' hs => isinstance_outer ?_ (by intro q; cases q)) ⟨he, h⟩
  obtain ⟨h0, g, d, tt, os⟩ := s'
  have L0 := looks_exc (model P W) hs.1 hc
  unfold Builtin.«isinstance.nested»
  refine wpAny_bind (L0.at ?_)
  rw [if_pos (by simp)]
  exact wpAny_bind (wpAny_rule (wpAny_pure hs.2))

noncomputable def notIsa (K : Frag) (C C' : Addr) : Bool := decide (C ≠ C') && (clsIn K C').isSome && (clsIn K C).isSome && typeIn K (.ref C') == some (.type "type") && subIn K (.ref C) (.ref C') == some false
set_option tactic.hygienic true in
theorem looks_isType {h : Heap} {M : Model} (X : K.In h) {C : Addr} (e : (clsIn K C).isSome = true) : Looks M h (isType (.ref C)) true := by
  unfold clsIn at e
  split at e
  · rename_i c' d' cd' sl' ho
    intro A' Q' E' s' k q
    unfold isType loadHead
    exact wpAny_bind (wpAny_loadPart (k _ _ (X _ _ ho)) (wpAny_pure q))
  · cases e
theorem isa_not {Q : Value → Shared → Prop} {C' : Addr} (X : K.In s.heap) (he : s.heap.get? e = some oe) (hc : oe.cls = .ref C) (hk : isaChk K C = true) (hn : notIsa K C C' = true) (h : Q (.bool false) { s with toks := s.toks + 1 }) :
    wpAny (model prog w) A (call (.builtin "isinstance") [.ref e, .ref C']) Q E s := by
  unfold notIsa at hn
  rw [Bool.and_eq_true, Bool.and_eq_true, Bool.and_eq_true, Bool.and_eq_true] at hn
  obtain ⟨⟨⟨⟨e0, e1⟩, e1'⟩, e2⟩, e3⟩ := hn
  refine call_isinstance (S := fun xx R s => (K.In s.heap ∧ s.heap.get? e = some oe) ∧ R (.ok (.ret (.bool false))) { s with toks := s.toks + 1 }) (fun P W A' R' s' hs => isinstance_outer ?_ (by intro q; cases q)) ⟨⟨X, he⟩, h⟩
  obtain ⟨⟨X, he⟩, h⟩ := hs
  obtain ⟨h0, g, d, tt, os⟩ := s'
  have L0 := looks_exc (model P W) he hc
  have hty := looks_typeIn (M := model P W) X (beq_iff_eq.mp e2)
  have his := looks_isType (M := model P W) X e1
  have hisC := looks_isType (M := model P W) X e1'
  have hsub := looks_subIn (M := model P W) X (beq_iff_eq.mp e3)
  have LI : Looks (model P W) h0 (isInstance (.ref e) (.ref C')) false := L0.andThen hsub
  unfold Builtin.«isinstance.nested»
  refine wpAny_bind (L0.at ?_)
  rw [if_neg (fun q => of_decide_eq_true e0 (Value.ref.inj (beq_iff_eq.mp q)))]
  refine wpAny_bind (hty.at ?_)
  rw [if_pos (by decide)]
  k_delta "plainIsInstance"
  refine wpAny_bind (wpAny_bind (his.at ?_))
  simp only [Bool.not_true, Bool.false_eq_true, if_false]
  refine wpAny_bind (LI.at ?_)
  simp only [Bool.false_eq_true, if_false]
  refine wpAny_bind (exc_getattr X he hc hk ?_)
  refine wpAny_bind (hisC.at ?_)
  simp only [Bool.not_true, Bool.false_eq_true, if_false]
  refine wpAny_bind (wpAny_rule ?_)
  refine hsub.at ?_
  exact wpAny_pure h
theorem isa_val {Q : Value → Shared → Prop} (X : K.In s.heap) (he : s.heap.get? e = some oe) (hc : oe.cls = .ref C) (hn : (subIn K (.ref C) (.type "ValueError") == some true) = true) (h : Q (.bool true) s) :
    wpAny (model prog w) A (call (.builtin "isinstance") [.ref e, .type "ValueError"]) Q E s := by
  refine call_isinstance (S := fun xx R s => (K.In s.heap ∧ s.heap.get? e = some oe) ∧ R (.ok (.ret (.bool true))) s) (fun P W A' R' s' hs => isinstance_outer ?_ (by intro q; cases q)) ⟨⟨X, he⟩, h⟩
  obtain ⟨⟨X, he⟩, h⟩ := hs
  obtain ⟨h0, g, d, tt, os⟩ := s'
  have L0 := looks_exc (model P W) he hc
  have hsub := looks_subIn (M := model P W) X (beq_iff_eq.mp hn)
  have LI : Looks (model P W) h0 (isInstance (.ref e) (.type "ValueError")) true := L0.andThen hsub
  unfold Builtin.«isinstance.nested»
  refine wpAny_bind (L0.at ?_)
  rw [if_neg (fun q => by cases beq_iff_eq.mp q)]
  refine wpAny_bind (wpAny_of_eq (a := .type "type") (by kernel_rfl) ?_)
  rw [if_pos (by decide)]
  k_delta "plainIsInstance"
  refine wpAny_bind (wpAny_bind (wpAny_of_eq (a := true) rfl ?_))
  simp only [Bool.not_true, Bool.false_eq_true, if_false]
  refine wpAny_bind (LI.at ?_)
  simp only [if_true]
  exact wpAny_pure (wpAny_pure h)
end
noncomputable def IsaAt (X : Cx) (C : Addr) (cn : Str) (b : Bool) : Prop := ∃ K : Frag, K.In X.g ∧ isaChk K C = true ∧ ((b = true ∧ X.mg cn = some (.ref C)) ∨ (b = false ∧ ∃ C', X.mg cn = some (.ref C') ∧ notIsa K C C' = true))
noncomputable def ValAt (X : Cx) (C : Addr) : Prop := ∃ K : Frag, K.In X.g ∧ (subIn K (.ref C) (.type "ValueError") == some true) = true ∧ X.mg "ValueError" = none ∧ X.mb "ValueError" = some (.type "ValueError")
noncomputable def E.isA (e : E) (cn : Str) : E := fun X n ρ σ Q => e X n ρ σ fun x σ => ∃ a C b, x = .ref a ∧ ExcObj X.g a C ∧ IsaAt X C cn b ∧ Q (.bool b) σ
noncomputable def E.isV (e : E) : E := fun X n ρ σ Q => e X n ρ σ fun x σ => ∃ a C, x = .ref a ∧ ExcObj X.g a C ∧ ValAt X C ∧ Q (.bool true) σ

section
variable {X : Cx} {n : Nat} {sc : Scope} {names : List Str}
theorem SE_isA {cn : Str} {x : Expr} {e : E} {p p' pos : Pos} (G : Gnd X) (hx : SE X n sc names x e) (hk : sc.names.lookup ("isinstance" : Str) = some .globalImplicit) (hT : sc.names.lookup cn = some .globalImplicit) (hd : (cn == ("__debug__" : Str)) = false) (hs : notStar x = true) :
    SE X n sc names (.Call (.Name "isinstance" p) [x, .Name cn p'] [] pos) (.isA e cn) := by
  intro env A s Φ ρ σ Q he eo hroom ok F h
  refine Call_Name rfl ?_
  refine name_blt G ok eo (by rw [Env.kindOf_sc he]; exact hk) (v := .builtin "isinstance") (by simp [bNames]) (by decide) ?_
  refine PyProof.Rows.callWith_builtin1 ?_ (starEach_cons hs) (plain_star _ rfl)
  rw [starEach_cons hs]
  show wpAny _ A (spliced ((false, eval x env) :: (false, eval (.Name cn p') env) :: [])) _ _ s
  refine Calls.spliced_cons (wpAny_mono (hx env A s Φ ρ σ _ he eo hroom ok F h) ?_ fun xx xx h => h.elim)
  rintro v s₁ ⟨_, σ₁, Φ₁, st, r, a, C, b, rfl, ⟨oe, vs, ho, hc, _⟩, ⟨K, hK, hch, hb⟩, q⟩
  cases r
  have X1 : K.In s₁.heap := hK.keeps st.ok.gkeep
  have ho₁ := st.ok.gkeep _ _ ho
  rcases hb with ⟨rfl, hm⟩ | ⟨rfl, C', hm, hn⟩
  · refine Calls.spliced_cons (name_fn G st.ok eo (by rw [Env.kindOf_sc he]; exact hT) hm hd ?_)
    exact Calls.spliced_nil (isa_self ho₁ hc ⟨_, σ₁, Φ₁, st, .bool true, q⟩)
  · refine Calls.spliced_cons (name_fn G st.ok eo (by rw [Env.kindOf_sc he]; exact hT) hm hd ?_)
    exact Calls.spliced_nil (isa_not X1 ho₁ hc hch hn ⟨_, σ₁, Φ₁, st.trans (Step.tok st.ok _), .bool false, q⟩)
theorem SE_isV {x : Expr} {e : E} {p p' pos : Pos} (G : Gnd X) (hx : SE X n sc names x e) (hk : sc.names.lookup ("isinstance" : Str) = some .globalImplicit) (hT : sc.names.lookup ("ValueError" : Str) = some .globalImplicit) (hs : notStar x = true) :
    SE X n sc names (.Call (.Name "isinstance" p) [x, .Name "ValueError" p'] [] pos) (.isV e) := by
  intro env A s Φ ρ σ Q he eo hroom ok F h
  refine Call_Name rfl ?_
  refine name_blt G ok eo (by rw [Env.kindOf_sc he]; exact hk) (v := .builtin "isinstance") (by simp [bNames]) (by decide) ?_
  refine PyProof.Rows.callWith_builtin1 ?_ (starEach_cons hs) (plain_star _ rfl)
  rw [starEach_cons hs]
  show wpAny _ A (spliced ((false, eval x env) :: (false, eval (.Name "ValueError" p') env) :: [])) _ _ s
  refine Calls.spliced_cons (wpAny_mono (hx env A s Φ ρ σ _ he eo hroom ok F h) ?_ fun xx xx h => h.elim)
  rintro v s₁ ⟨_, σ₁, Φ₁, st, r, a, C, rfl, ⟨oe, vs, ho, hc, _⟩, ⟨K, hK, hch, h1, h2⟩, q⟩
  cases r
  have X1 : K.In s₁.heap := hK.keeps st.ok.gkeep
  refine Calls.spliced_cons (Calls.Name_function_global eo.kind (by rw [Env.kindOf_sc he]; exact hT) (Calls.loadGlobal_builtin (mg := X.mg) (mb := X.mb) (by rw [eo.glob]; exact G.gl.keeps st.ok.gkeep) h1 (by rw [eo.blt]; exact G.bl.keeps st.ok.gkeep) h2 ?_) (by decide))
  exact Calls.spliced_nil (isa_val X1 (st.ok.gkeep _ _ ho) hc hch ⟨_, σ₁, Φ₁, st, .bool true, q⟩)
end
end
noncomputable def S.try_ (ms : List S) : S := fun X n ρ σ Q => mExecs X n ms ρ σ Q
noncomputable def S.ins (i : Nat) (k e : E) : S := fun X n ρ σ Q => (ρ.getD i .unb).onMt fun ds => ds.length ≤ 2 ^ 20 ∧ mEvals X n [k, e] ρ σ fun xs σ =>
  ∃ j d, xs = [.int j, d] ∧ 0 ≤ j ∧ j ≤ ds.length ∧ Q .next (ρ.set i (.mt (ds.take j.toNat ++ d :: ds.drop j.toNat))) σ
noncomputable def S.clr (i : Nat) : S := fun xx xx ρ σ Q => (ρ.getD i .unb).onMt fun ds => ds.length ≤ 2 ^ 20 ∧ Q .next (ρ.set i (.mt [])) σ
noncomputable def E.countI (o e : E) : E := fun X n ρ σ Q => o X n ρ σ fun x σ => ∃ (ns : List Int), x = .lst (ns.map D.int) ∧ mEvals X n [e] ρ σ fun xs σ => ∃ i, xs = [.int i] ∧ Q (.int (ns.countP fun j => j == i)) σ

theorem countI_rd {Φ : Fz} (i : Int) : ∀ {vs : List Value} {ns : List Int}, RdAll Φ vs (ns.map D.int) → (vs.countP fun v => match v with | .int j _ => j == i | _ => false) = ns.countP fun j => j == i
  | [], [], _ => rfl
  | _ :: _, _ :: _, .cons r rs => by
    cases r with
    | int _ t => rw [List.countP_cons, List.countP_cons, countI_rd i rs]

section
variable {X : Cx} {n : Nat} {sc : Scope} {names : List Str}
theorem SS_try {tb : List Stmt} {ms : List S} {h : ExceptHandler} {hs : List ExceptHandler} {pos : Pos} (hb : SSs X n sc names tb ms) : SS X n sc names (.Try tb (h :: hs) [] [] pos) (.try_ ms) := by
  intro env A s B Φ₀ ρ σ Φ Q he eo hr I q
  refine wpAny_Try_except (wpAny_mono (hb env A s B Φ₀ ρ σ Φ Q he eo hr I q) (fun f s₁ z => ?_) fun xx xx h => h.elim)
  cases f with
  | next => exact wpAny_execs_nil z
  | _ => exact z

set_option tactic.hygienic true in
theorem SS_ins {i : Nat} {x : Str} {u v : Expr} {k e : E} {p apos cpos pos : Pos} (hi : names[i]? = some x) (ha : accS sc x = true) (hp : plainName x = true) (hu : SE X n sc names u k) (hv : SE X n sc names v e) (hs : notStar u = true) (hs' : notStar v = true) (hl : (apos.endLine == cpos.line) = true) :
    SS X n sc names (.Expr (.Call (.Attribute (.Name x p) "insert" apos) [u, v] [] cpos) pos) (.ins i k e) := by
  intro env A s B Φ₀ ρ σ Φ Q he eo hr I h
  obtain ⟨ds, eds, hlen, h⟩ := MV.mt_of h
  refine wpAny_Expr (MethodCall_ ?_ (meth_eq hl (by simp [hs, hs']) (by simp))) (interactive_no eo) expr_call_swaps
  obtain ⟨m, cm, μ, F, hB⟩ := I.fr
  simp only [plainName, Bool.and_eq_true, Bool.not_eq_true'] at hp
  obtain ⟨a, vs, hμ, hlk, hpl, hrd⟩ := F.own hi (acc_of he ha) eds
  refine load_var eo F (acc_of he ha) hlk hp.1 hp.2 ?_
  obtain ⟨c, ho⟩ := id hpl
  refine getMethod_list_of PySem.F.slot_list_insert PySem.F.type_list_insert ⟨_, ho, rfl, _, rfl⟩ ⟨_, ho, rfl⟩ ?_
  refine callWith_method1 ?_ (starEach_cons hs) (plain_star _ (by simp [hs']))
  refine wpAny_mono (SEs_cons hu (SEs_cons hv SEs_nil hs') hs env A s Φ ρ σ _ cpos he eo hr I.ok I.frame h) ?_ fun xx xx h => h.elim
  rintro ws s₁ ⟨_, σ₁, Φ₁, st, r, j, d, rfl, h0, h1, q⟩
  cases r with
  | cons r1 r2 =>
    cases r2 with
    | cons r2 r3 =>
      cases r3
      rename_i y
      cases r1 with
      | int _ t =>
        have p := F.priv a (.inr (.inr ⟨i, hμ⟩))
        obtain ⟨c₁, ho₁⟩ : s₁.heap.PlainList a vs := hpl.at fun o ho => st.keep a o ho p.1
        have hlv := hrd.length
        simp only [Array.length_toList] at hlv
        refine call_meets PySem.F.slot_list_insert ⟨_, ho₁, rfl⟩ PySem.F.entry_list_insert (PySem.F.args_list_insert_3 _ _ _) (AutoSeq1.list_insert_list_int_val_1 a vs c₁ j t y (by simp [Builtin.List.listFitsIndex]; omega) (by unfold sizeLine; (first | with_reducible exact oo9 ‹_› ‹_› | omega))) ⟨ho₁, ?_⟩
        have hk : (if j < 0 then (j + (vs.size : Int)).toNat else min j.toNat vs.size) = j.toNat := by rw [if_neg (by first | with_reducible exact Int.not_lt.mpr ‹_› | omega)]; omega
        have hu := Heap.get?_update_self (Obj.mapSeq fun xs => have k := if j < 0 then (j + (xs.size : Int)).toNat else min j.toNat xs.size; (xs.extract 0 k).push y ++ xs.extract k) ho₁ rfl
        have rr : RdAll Φ₁ ((vs.extract 0 j.toNat).push y ++ vs.extract j.toNat).toList (ds.take j.toNat ++ d :: ds.drop j.toNat) := by
          have hr' := hrd.mono st.mono
          have e1 : ((vs.extract 0 j.toNat).push y ++ vs.extract j.toNat).toList = vs.toList.take j.toNat ++ y :: vs.toList.drop j.toNat := by
            simp [Array.toList_extract, List.extract_eq_take_drop]
            rw [List.take_of_length_le (by simp)]
          rw [e1]
          exact (hr'.take _).append (.cons r2 (hr'.drop _))
        have eG : (fun xs : Array Value => have k := if j < 0 then (j + (xs.size : Int)).toNat else min j.toNat xs.size; (xs.extract 0 k).push y ++ xs.extract k) vs = (vs.extract 0 j.toNat).push y ++ vs.extract j.toNat := by
          simp only [hk]
        generalize (fun xs : Array Value => have k := if j < 0 then (j + (xs.size : Int)).toNat else min j.toNat xs.size; (xs.extract 0 k).push y ++ xs.extract k) = G at hu eG ⊢
        have hl' : (s₁.heap.update a (Obj.mapSeq G)).PlainList a ((vs.extract 0 j.toNat).push y ++ vs.extract j.toNat) := by rw [← eG]; exact ⟨_, hu⟩
        have I' := (I.step st).upd (F.step st) hB hi hμ (Heap.SameBut.update ..) hl' rr
        obtain ⟨h₂, tk₂, rfl⟩ := st.same
        exact ⟨.next, _, σ₁, Φ₁, ⟨_, _, rfl⟩, I', st.mono, trivial, q⟩

theorem SS_clr {i : Nat} {x : Str} {p apos cpos pos : Pos} (hi : names[i]? = some x) (ha : accS sc x = true) (hp : plainName x = true) (hl : (apos.endLine == cpos.line) = true) :
    SS X n sc names (.Expr (.Call (.Attribute (.Name x p) "clear" apos) [] [] cpos) pos) (.clr i) := by
  intro env A s B Φ₀ ρ σ Φ Q he eo hr I h
  obtain ⟨ds, eds, hlen, q⟩ := MV.mt_of h
  refine wpAny_Expr (MethodCall_ ?_ (meth_eq hl rfl (by simp))) (interactive_no eo) expr_call_swaps
  obtain ⟨m, cm, μ, F, hB⟩ := I.fr
  simp only [plainName, Bool.and_eq_true, Bool.not_eq_true'] at hp
  obtain ⟨a, vs, hμ, hlk, hpl, hrd⟩ := F.own hi (acc_of he ha) eds
  refine load_var eo F (acc_of he ha) hlk hp.1 hp.2 ?_
  obtain ⟨c, ho⟩ := id hpl
  have hlv := hrd.length
  simp only [Array.length_toList] at hlv
  refine getMethod_list_of PySem.F.slot_list_clear PySem.F.type_list_clear ⟨_, ho, rfl, _, rfl⟩ ⟨_, ho, rfl⟩ ?_
  refine callWith_method0 ?_
  refine call_meets PySem.F.slot_list_clear ⟨_, ho, rfl⟩ PySem.F.entry_list_clear (PySem.F.args_list_clear_1 _) (AutoSeq1.list_clear_list_0 a vs c (by unfold sizeLine; (first | with_reducible exact oo9 ‹_› ‹_› | omega))) ⟨ho, ?_⟩
  have hu := Heap.get?_update_self (Obj.mapSeq fun xx => #[]) ho rfl
  exact ⟨.next, _, σ, Φ, ⟨_, _, rfl⟩, I.upd F hB hi hμ (Heap.SameBut.update ..) ⟨_, hu⟩ .nil, Fz.le.refl _, trivial, q⟩

theorem SE_countI {b v : Expr} {o e : E} {apos pos : Pos} (ho : SE X n sc names b o) (hv : SE X n sc names v e) (hs : notStar v = true) (hm : MethEq b "count" [v] apos pos) :
    SE X n sc names (.Call (.Attribute b "count" apos) [v] [] pos) (.countI o e) := by
  intro env A s Φ ρ σ Q he eo hroom ok F h
  obtain ⟨pl, heq⟩ := hm env
  refine MethodCall_ (wpAny_mono (ho env A s Φ ρ σ _ he eo hroom ok F h) ?_ fun xx xx h => h.elim) heq
  rintro w s₁ ⟨_, σ₁, Φ₁, st, r, ns, rfl, q⟩
  obtain ⟨a, rfl⟩ := r.lst_ref
  obtain ⟨vs, hl1, ra, _⟩ := r.isList st.ok
  have hnd : s₁.heap.NoDictAt (.ref a) := by
    cases r with
    | lst h1 _ _ h4 _ => exact ⟨_, (st.ok.frz _ _ h1).1, h4⟩
  refine getMethod_list_of PySem.F.slot_list_count PySem.F.type_list_count hl1 hnd ?_
  refine callWith_method1 ?_ (starEach_cons hs) rfl
  refine wpAny_mono (SEs_cons hv SEs_nil hs env A s₁ Φ₁ ρ σ₁ _ pos he eo hroom st.ok (F.step st) q) ?_ fun xx xx h => h.elim
  rintro ws s₂ ⟨_, σ₂, Φ₂, st₂, r₂, i, rfl, q⟩
  cases r₂ with
  | cons r1 r2 =>
    cases r2
    cases r1 with
    | int _ t =>
      obtain ⟨vs, hl2, ra, _⟩ := (r.mono st₂.mono).isList st₂.ok
      obtain ⟨⟨cls, dd, data, sl⟩, ho, hc, k, hd⟩ := id hl2
      simp only at hc hd
      subst hc hd
      refine call_meets PySem.F.slot_list_count ⟨_, ho, rfl⟩ PySem.F.entry_list_count (PySem.F.args_list_count_2 _ _) (PySem.SeqAt.list_countAt a vs k dd sl (.int i t) fun v => match v with | .int j _ => j == i | _ => false) ⟨ho, fun y hy => ?_, ?_⟩
      · obtain ⟨j, hj, rfl⟩ := List.getElem_of_mem (Array.mem_toList_iff.mpr hy)
        obtain ⟨d, hd, rd⟩ := ra.get' (List.getElem?_eq_getElem hj)
        generalize vs.toList[j] = y at rd
        rw [List.getElem?_map] at hd
        obtain ⟨z, _, rfl⟩ := Option.map_eq_some_iff.mp hd
        cases rd with
        | int _ t' => exact PySem.SeqAt.EqAt.int_int z t' i t
      · rw [countI_rd i ra]
        exact ⟨_, _, Φ₂, (st.trans st₂).trans (Step.tok st₂.ok _), .int _ _, q⟩
end
noncomputable def tryBody : List Stmt → List Stmt
  | .Try b _ _ _ _ :: _ => b
  | _ => []

structure EA where
  (V bc bs tm bb : Addr)
noncomputable def EA.all (x : EA) : List (Str × Addr) := [("BadCount", x.bc), ("BadSeats", x.bs), ("TooMany", x.tm), ("BadBallot", x.bb)]
structure ExcsIs (X : Cx) (x : EA) : Prop where
  vote : ExcAt X "VoteError" x.V
  each : ∀ p ∈ x.all, ExcAt X p.1 p.2 ∧ Under X x.V p.2 ∧ ValAt X p.2 ∧ ∀ q ∈ x.all, IsaAt X p.2 q.1 (q.2 == p.2)
  nd : (x.all.map (·.2)).Nodup
theorem IsaAt.hot {X : Cx} {C : Addr} {cn : Str} {b : Bool} {h : Heap} (x : IsaAt X C cn b) (k : ∀ b o, X.g.get? b = some o → h.get? b = some o) : IsaAt (X.hot h) C cn b :=
  let ⟨K, hK, r⟩ := x; ⟨K, hK.keeps k, r⟩
theorem ValAt.hot {X : Cx} {C : Addr} {h : Heap} (x : ValAt X C) (k : ∀ b o, X.g.get? b = some o → h.get? b = some o) : ValAt (X.hot h) C :=
  let ⟨K, hK, r⟩ := x; ⟨K, hK.keeps k, r⟩

theorem comp_l {cond elt : List MV → Sg → (D → Sg → Prop) → Prop} {ρ : List MV} {is : List Nat} {σ : Sg} {α : Type} (r : α → List D) (P : α → Bool) (f : α → D) : ∀ (l : List α) {Q : List D → Sg → Prop},
    (∀ x ∈ l, ∀ K : D → Sg → Prop, K (.bool (P x)) σ → cond (setAll ρ is (r x)) σ K) → (∀ x ∈ l, P x = true → ∀ K : D → Sg → Prop, K (f x) σ → elt (setAll ρ is (r x)) σ K) → Q ((l.filter P).map f) σ → compT cond elt ρ is (l.map r) σ Q
  | [], _, _, _, h => h
  | x :: l, Q, hc, he, h => by
    refine hc x List.mem_cons_self _ (show if P x = true then _ else _ from ?_)
    rw [List.filter_cons] at h
    cases hp : P x with
    | true =>
      rw [hp] at h
      exact he x List.mem_cons_self hp _ (comp_l r P f l (fun y hy => hc y (List.mem_cons_of_mem _ hy)) (fun y hy => he y (List.mem_cons_of_mem _ hy)) h)
    | false =>
      rw [hp] at h
      exact comp_l r P f l (fun y hy => hc y (List.mem_cons_of_mem _ hy)) (fun y hy => he y (List.mem_cons_of_mem _ hy)) h

mutual
theorem eqv_rfl : ∀ (d : D), PyData.eqv d.py d.py = true
  | .none => by simp [D.py, PyData.eqv]
  | .bool b => by simp [D.py, PyData.eqv]
  | .int i => by simp [D.py, PyData.eqv]
  | .str x => by simp [D.py, PyData.eqv]
  | .tup ds => by simp only [D.py, PyData.eqv]; exact eqvs_rfl ds
  | .lst ds => by simp only [D.py, PyData.eqv]; exact eqvs_rfl ds
  | .ref _ => by simp [D.py, PyData.eqv]
theorem eqvs_rfl : ∀ (ds : List D), PyData.eqvAll (D.pys ds) (D.pys ds) = true
  | [] => by simp [D.pys, PyData.eqvAll]
  | d :: ds => by simp only [D.pys, PyData.eqvAll, Bool.and_eq_true]; exact ⟨eqv_rfl d, eqvs_rfl ds⟩
end
theorem eqv_nil (ds : List D) : eqv (.lst ds) (.lst []) = ds.isEmpty := by
  cases ds <;> simp [eqv, D.py, D.pys, PyData.eqv, PyData.eqvAll]
theorem ok_mono : ∀ {n m : Nat} {d : D}, n ≤ m → D.ok n d = true → D.ok m d = true
  | _, _, .none, _, _ => by cases ‹Nat› <;> rfl
  | _, _, .bool _, _, _ => by cases ‹Nat› <;> rfl
  | _, _, .int _, _, _ => by cases ‹Nat› <;> rfl
  | n, m, .str x, _, h => by cases n <;> cases m <;> exact h
  | n + 1, m + 1, .tup ds, hm, h => by
    simp only [D.ok, List.all_eq_true] at h ⊢
    exact fun d hd => ok_mono (Nat.le_of_succ_le_succ hm) (h d hd)
  | n + 1, m + 1, .lst ds, hm, h => by
    simp only [D.ok, List.all_eq_true] at h ⊢
    exact fun d hd => ok_mono (Nat.le_of_succ_le_succ hm) (h d hd)
  | 0, _, .tup _, _, h => by cases h
  | 0, _, .lst _, _, h => by cases h
  | _ + 1, 0, _, hm, _ => absurd hm (Nat.not_succ_le_zero _)
  | 0, _, .ref _, _, h => by cases h
  | _ + 1, _, .ref _, _, h => by cases h
theorem noRef_ok {n : Nat} {d : D} (h : D.ok n d = true) : ∀ a, d ≠ .ref a := fun a e => by subst e; cases n <;> cases h

noncomputable def keysStr (es : Array DictEntry) : Bool := es.toList.all fun e => match e.key with | .str _ _ => true | _ => false
set_option tactic.hygienic true in
theorem strKeys_of {es : Array DictEntry} (h : keysStr es = true) : StrKeys es := by
  intro e he
  have := List.all_eq_true.mp h e (by simpa using he)
  split at this
  · rename_i n t q; exact ⟨n, t, q⟩
  · cases this
theorem ns_in {K : PySem.W.Frag} {h : Heap} (hK : K.In h) {N : Addr} {o : Obj} {es : Array DictEntry} {ep : Nat} (h1 : K.lookup N = some o) (hd : o.data = .dict es ep) (hs : keysStr es = true) : h.Ns N (nsFind es) :=
  ⟨o, es, ep, hK _ _ h1, hd, strKeys_of hs, fun xx => rfl⟩
theorem exc_at {X : Cx} {K : PySem.W.Frag} (hK : K.In X.g) {cn : Str} {C : Addr} (hb : X.mg cn = some (.ref C)) {nm q : Str} {N : Addr} {bs bm : List Value} {hdct : Bool} {sn : List Str} {sub : List Value} {ab : Bool} {col : Option Bool} {dd : Option Addr} {k0 k1 k2 k3 k5 : Option Value} {oC : Obj}
    (hC : K.lookup C = some oC) (eC : oC = excClassObj nm q C N bs bm hdct sn sub ab col dd k0 k1 k2 k3 k5 "ValueError.__new__") {o : Obj} {es : Array DictEntry} {ep : Nat} (hN : K.lookup N = some o) (hd : o.data = .dict es ep) (hs : keysStr es = true) (hi : nsFind es "__init__" = none) (T : OwnTail X.g bmV bm) : ExcAt X cn C :=
  ⟨hb, bm, N, nm, q, bs, hdct, sn, sub, ab, col, dd, k0, k1, k2, k3, k5, _, eC ▸ hK _ _ hC, ns_in hK hN hd hs, hi, T⟩
theorem tail_at {X : Cx} {K : PySem.W.Frag} (hK : K.In X.g) {A : Addr} {c0 : Value} {dd : Option Addr} {cd : ClassData} {sl : Array (Option Value)} {oA : Obj} (hA : K.lookup A = some oA) (eA : oA = { cls := c0, dict := dd, data := .cls cd, slots := sl })
    {o : Obj} {es : Array DictEntry} {ep : Nat} (hN : K.lookup cd.ns = some o) (hd : o.data = .dict es ep) (hs : keysStr es = true) (hi : nsFind es "__init__" = none) : OwnTail X.g bmV (.ref A :: bmV) :=
  .own (eA ▸ hK _ _ hA) (ns_in hK hN hd hs) hi .base
noncomputable def tailHas (o : Obj) (V : Addr) : Bool := match o.data with | .cls cd => cd.mro.tail.contains (.ref V) | _ => false
theorem under_of {X : Cx} {K : PySem.W.Frag} (hK : K.In X.g) {V C : Addr} {cn : Str} (hE : ExcAt X cn C) {o : Obj} (h1 : K.lookup C = some o) (h2 : tailHas o V = true) : Under X V C := by
  refine ⟨⟨cn, hE⟩, fun h => ?_⟩
  have e := hK _ _ h1
  rw [h] at e
  cases e
  exact h2

theorem law_endsF {prog : Program} {w : World} {mg mb : Str → Option Value} {s : Shared} {fa l : Addr} {vs : List Value} {ns : List Int} {n : Nat} {P : Value → Shared → Prop} {E : Value → Shared → Prop} {f : Str} {sc : Scope} {names ps : List Str} {body : List Stmt} {ms : List S} (hk : n + 1 ≤ 40) (hm : mg f = some (.ref fa))
    (hL : ∃ o, s.heap.get? l = some o ∧ o.cls = .type "list" ∧ o.dict = none ∧ ∃ n, o.data = .seq vs.toArray n) (hI : IntsAre vs ns) (G : Gnd ⟨prog, w, s.heap, mg, mb, true⟩) (hf : FnIs ⟨prog, w, s.heap, mg, mb, true⟩ f sc ps body) (hs : ScOk sc names ps) (hb : SSsf ⟨prog, w, s.heap, mg, mb, true⟩ n sc names body ms) (hlen : ps.length = 1)
    (h : mExecs ⟨prog, w, s.heap, mg, mb, true⟩ n ms ([.val (.lst (ns.map D.int))] ++ List.replicate (names.length - ps.length) .unb) empS (fun fl xx xx => flD fl = .bool true))
    (hP : ∀ h' tk, (∀ b o, s.heap.get? b = some o → h'.get? b = some o) → P (.bool true) { s with heap := h', toks := tk }) : wpAny (model prog w) callerA (call (.ref fa) [.ref l]) P E s := by
  obtain ⟨o, ho, hcl, hdn, m, hd⟩ := hL
  have ok : Ok s.heap empS (fun b => if b = l then some o else none) s.heap := by
    refine ⟨fun b o e => ⟨e, rfl⟩, fun b o' e => ⟨?_, rfl⟩, fun xx xx e => by cases e⟩
    split at e
    · cases e; subst b; exact ho
    · cases e
  have hroom : Room ⟨prog, w, s.heap, mg, mb, true⟩ (n + 1) callerA := by
    refine Room.le (n := 40) ?_ hk
    refine ⟨fun xx => rfl, ?_, ?_⟩ <;> decide +kernel
  obtain ⟨a, h1, hf⟩ := hf
  have e1 : mg f = some (.ref a) := h1
  rw [hm] at e1; cases e1
  refine wpAny_call (codeAny_mono (call_law (ds := [.lst (ns.map D.int)]) (Q := fun d => d = .bool true) G hf hs hb hlen.symm h hroom rfl ok (.cons (.lst (o := o) (by simp) hcl hd hdn (ints_rd hI)) .nil)) fun r s' z => ?_)
  obtain ⟨v, d, Φ', rfl, rd, hq, ⟨h', tk, rfl⟩, kp⟩ := z
  rw [hq] at rd
  cases rd
  exact hP h' tk kp
namespace L04
noncomputable abbrev P : Program := PySem.Challenge.pw_uf060016_04

noncomputable def n_is_whole : List Str := ["thing", "least", "most"]
noncomputable abbrev m_is_whole : List S := M.is_whole
noncomputable def c_is_whole : Scope := fnScope (stmtAt P 11)
theorem sq_is_whole : (recOf P "is_whole").scope = c_is_whole := by kernel_rfl
theorem bq_is_whole : (recOf P "is_whole").body = fnBody (stmtAt P 11) := by kernel_rfl

noncomputable def n_is_row : List Str := ["thing", "candidates", "place", "wish"]
noncomputable abbrev m_is_row : List S := M.is_row
noncomputable def c_is_row : Scope := fnScope (stmtAt P 12)
theorem sq_is_row : (recOf P "is_row").scope = c_is_row := by kernel_rfl
theorem bq_is_row : (recOf P "is_row").body = fnBody (stmtAt P 12) := by kernel_rfl

noncomputable def n_is_ballot : List Str := ["thing", "candidates"]
noncomputable abbrev m_is_ballot : List S := M.is_ballot
noncomputable def c_is_ballot : Scope := fnScope (stmtAt P 13)
theorem sq_is_ballot : (recOf P "is_ballot").scope = c_is_ballot := by kernel_rfl
theorem bq_is_ballot : (recOf P "is_ballot").body = fnBody (stmtAt P 13) := by kernel_rfl

noncomputable def n_need_vote : List Str := ["candidates", "ballots", "seats", "ballot"]
noncomputable abbrev m_need_vote : List S := M.need_vote
noncomputable def c_need_vote : Scope := fnScope (stmtAt P 14)
theorem sq_need_vote : (recOf P "need_vote").scope = c_need_vote := by kernel_rfl
theorem bq_need_vote : (recOf P "need_vote").body = fnBody (stmtAt P 14) := by kernel_rfl
noncomputable def b_need_voteR_1 : List S :=
  [.iff (.not_ (.call "is_ballot" [(.var 3), (.var 0)]))
      [.dead]
      []]
noncomputable def r_need_vote : SR :=
  (.alt (.iff (.not_ (.call "is_whole" [(.var 0), (.cst (.int 1)), (.glob "MOST_CANDIDATES")])) (.alt (.raise "BadCount") .dead .no) .no) (.iff (.not_ (.call "is_whole" [(.var 0), (.cst (.int 1)), (.glob "MOST_CANDIDATES")]))
        [.dead]
        []) (.alt (.iff (.not_ (.call "is_whole" [(.var 2), (.cst (.int 1)), (.var 0)])) (.alt (.raise "BadSeats") .dead .no) .no) (.iff (.not_ (.call "is_whole" [(.var 2), (.cst (.int 1)), (.var 0)]))
        [.dead]
        []) (.alt (.iff (.cmp .gt (.bi .len [(.var 1)]) (.glob "MOST_BALLOTS")) (.alt (.raise "TooMany") .dead .no) .no) (.iff (.cmp .gt (.bi .len [(.var 1)]) (.glob "MOST_BALLOTS"))
        [.dead]
        []) (.alt (.for_ [3] (.seq (.var 1)) b_need_voteR_1 (.alt (.iff (.not_ (.call "is_ballot" [(.var 3), (.var 0)])) (.alt (.raise "BadBallot") .dead .no) .no) .dead .no)) .dead .no))))

noncomputable def n_most_held : List Str := ["holdings", "standing", "best", "candidate"]
noncomputable abbrev m_most_held : List S := M.most
noncomputable def c_most_held : Scope := fnScope (stmtAt P 16)
theorem sq_most_held : (recOf P "most_held").scope = c_most_held := by kernel_rfl
theorem bq_most_held : (recOf P "most_held").body = fnBody (stmtAt P 16) := by kernel_rfl

noncomputable def n_least_held : List Str := ["holdings", "standing", "worst", "candidate"]
noncomputable abbrev m_least_held : List S := M.least
noncomputable def c_least_held : Scope := fnScope (stmtAt P 17)
theorem sq_least_held : (recOf P "least_held").scope = c_least_held := by kernel_rfl
theorem bq_least_held : (recOf P "least_held").body = fnBody (stmtAt P 17) := by kernel_rfl

noncomputable def n_deed_of : List Str := ["holdings", "standing", "seats", "many", "best"]
noncomputable abbrev m_deed_of : List S := M.deed
noncomputable def c_deed_of : Scope := fnScope (stmtAt P 18)
theorem sq_deed_of : (recOf P "deed_of").scope = c_deed_of := by kernel_rfl
theorem bq_deed_of : (recOf P "deed_of").body = fnBody (stmtAt P 18) := by kernel_rfl

noncomputable def n_place_of : List Str := ["row", "standing", "wish"]
noncomputable abbrev m_place_of : List S := M.place
noncomputable def c_place_of : Scope := fnScope (stmtAt P 20)
theorem sq_place_of : (recOf P "place_of").scope = c_place_of := by kernel_rfl
theorem bq_place_of : (recOf P "place_of").body = fnBody (stmtAt P 20) := by kernel_rfl

noncomputable def n_held : List Str := ["candidates", "places", "left", "found", "place", "weight"]
noncomputable abbrev m_held : List S := M.held
noncomputable def c_held : Scope := fnScope (stmtAt P 21)
theorem sq_held : (recOf P "held").scope = c_held := by kernel_rfl
theorem bq_held : (recOf P "held").body = fnBody (stmtAt P 21) := by kernel_rfl

noncomputable def n_all_weights : List Str := ["ballots", "ballot"]
noncomputable abbrev m_all_weights : List S := M.allw
noncomputable def c_all_weights : Scope := fnScope (stmtAt P 23)
theorem sq_all_weights : (recOf P "all_weights").scope = c_all_weights := by kernel_rfl
theorem bq_all_weights : (recOf P "all_weights").body = fnBody (stmtAt P 23) := by kernel_rfl

noncomputable def n_quota : List Str := ["ballots", "seats"]
noncomputable abbrev m_quota : List S := M.quota
noncomputable def c_quota : Scope := fnScope (stmtAt P 24)
theorem sq_quota : (recOf P "quota").scope = c_quota := by kernel_rfl
theorem bq_quota : (recOf P "quota").body = fnBody (stmtAt P 24) := by kernel_rfl

noncomputable def n_parts : List Str := ["weights", "some", "total", "found", "ahead", "given", "weight", "part"]
noncomputable abbrev m_parts : List S := M.parts
noncomputable def c_parts : Scope := fnScope (stmtAt P 25)
theorem sq_parts : (recOf P "parts").scope = c_parts := by kernel_rfl
theorem bq_parts : (recOf P "parts").body = fnBody (stmtAt P 25) := by kernel_rfl

noncomputable def n_Count_init : List Str := ["self", "candidates", "ballots", "seats", "ballot"]
noncomputable abbrev m_Count_init : List S := M.Count_init
noncomputable def c_Count_init : Scope := fnScope (methAt P 27 0)
noncomputable def r_Count_init : SR :=
  (.alt (.expr (.call "need_vote" [(.var 1), (.var 2), (.var 3)])) .dead .no)

noncomputable def n_Count_step : List Str := ["self", "places", "holdings", "deed", "later", "lying", "some", "given", "rest", "bearers", "standing", "left", "filled", "word", "candidate", "number", "part", "one"]
noncomputable abbrev m_Count_step : List S := M.Count_step
noncomputable def c_Count_step : Scope := fnScope (methAt P 27 1)

noncomputable def n_Count_places : List Str := ["self", "standing", "row"]
noncomputable abbrev m_Count_places : List S := M.Count_places
noncomputable def c_Count_places : Scope := fnScope (methAt P 27 4)

noncomputable def n_Count_left : List Str := ["self"]
noncomputable abbrev m_Count_left : List S := M.Count_left
noncomputable def c_Count_left : Scope := fnScope (methAt P 27 5)

noncomputable def n_Count_seats : List Str := ["self", "candidate", "bearers"]
noncomputable abbrev m_Count_seats : List S := M.Count_seats
noncomputable def c_Count_seats : Scope := fnScope (methAt P 27 6)

noncomputable def n_rounds_of : List Str := ["candidates", "ballots", "seats", "count", "found", "going", "places", "left", "deed"]
noncomputable abbrev m_rounds_of : List S := M.rounds_of
noncomputable def c_rounds_of : Scope := fnScope (stmtAt P 29)
theorem sq_rounds_of : (recOf P "rounds_of").scope = c_rounds_of := by kernel_rfl
theorem bq_rounds_of : (recOf P "rounds_of").body = fnBody (stmtAt P 29) := by kernel_rfl
noncomputable def r_rounds_of : SR :=
  (.alt (.expr (.make "Count" [(.var 0), (.var 1), (.var 2)])) .dead .no)

noncomputable def n_seats_of : List Str := ["candidates", "ballots", "seats", "count"]
noncomputable abbrev m_seats_of : List S := M.seats_of
noncomputable def c_seats_of : Scope := fnScope (stmtAt P 30)
theorem sq_seats_of : (recOf P "seats_of").scope = c_seats_of := by kernel_rfl
theorem bq_seats_of : (recOf P "seats_of").body = fnBody (stmtAt P 30) := by kernel_rfl
noncomputable def r_seats_of : SR :=
  (.alt (.expr (.make "Count" [(.var 0), (.var 1), (.var 2)])) .dead .no)

noncomputable def n_law_cell : List Str := ["_law_script", "_law_k", "_law_number"]
noncomputable abbrev m_law_cell : List S := M.cell
noncomputable def c_law_cell : Scope := fnScope (stmtAt P 32)
theorem sq_law_cell : (recOf P "_law_cell").scope = c_law_cell := by kernel_rfl
theorem bq_law_cell : (recOf P "_law_cell").body = fnBody (stmtAt P 32) := by kernel_rfl

noncomputable def n_law_whole : List Str := ["_law_found"]
noncomputable abbrev m_law_whole : List S := M.whole
noncomputable def c_law_whole : Scope := fnScope (stmtAt P 33)
theorem sq_law_whole : (recOf P "_law_whole").scope = c_law_whole := by kernel_rfl
theorem bq_law_whole : (recOf P "_law_whole").body = fnBody (stmtAt P 33) := by kernel_rfl

noncomputable def n_law_row : List Str := ["_law_cell_here", "_law_candidates_here", "_law_left", "_law_state", "_law_row_here", "_law_k"]
noncomputable abbrev m_law_row : List S := M.row
noncomputable def c_law_row : Scope := fnScope (stmtAt P 34)
theorem sq_law_row : (recOf P "_law_row").scope = c_law_row := by kernel_rfl
theorem bq_law_row : (recOf P "_law_row").body = fnBody (stmtAt P 34) := by kernel_rfl

noncomputable def n_law_weight : List Str := ["_law_cell_here", "_law_kind"]
noncomputable abbrev m_law_weight : List S := M.weight
noncomputable def c_law_weight : Scope := fnScope (stmtAt P 35)
theorem sq_law_weight : (recOf P "_law_weight").scope = c_law_weight := by kernel_rfl
theorem bq_law_weight : (recOf P "_law_weight").body = fnBody (stmtAt P 35) := by kernel_rfl

noncomputable def n_law_ballots : List Str := ["_law_script", "_law_candidates_here", "_law_many", "_law_kind", "_law_ballots_here", "_law_k", "_law_weight_here", "_law_row_here", "_law_one"]
noncomputable abbrev m_law_ballots : List S := M.ballots
noncomputable def c_law_ballots : Scope := fnScope (stmtAt P 37)
theorem sq_law_ballots : (recOf P "_law_ballots").scope = c_law_ballots := by kernel_rfl
theorem bq_law_ballots : (recOf P "_law_ballots").body = fnBody (stmtAt P 37) := by kernel_rfl

noncomputable def n_law_strange : List Str := ["_law_cell_here", "_law_low", "_law_high", "_law_far"]
noncomputable def m_law_strange : List S :=
  [.asg 3 (.bin .mod (.bin .mul (.bin .fdiv (.var 0) (.cst (.int 9))) (.cst (.int 48271))) (.cst (.int 1000000007))),
    .ret (.idx (.lst (.disp [(.bin .sub (.var 1) (.cst (.int 1))), (.bin .add (.var 2) (.cst (.int 1))), (.cst (.bool true)), (.cst (.bool false)), (.cst (.str "1")), (.cst .none), (.lst (.disp [(.cst (.int 1))])), (.bin .sub (.bin .sub (.var 1) (.cst (.int 1))) (.var 3)), (.bin .add (.bin .add (.var 2) (.cst (.int 1))) (.var 3))])) (.bin .mod (.var 0) (.cst (.int 9))))]
noncomputable def c_law_strange : Scope := fnScope (stmtAt P 39)
theorem sq_law_strange : (recOf P "_law_strange").scope = c_law_strange := by kernel_rfl
theorem bq_law_strange : (recOf P "_law_strange").body = fnBody (stmtAt P 39) := by kernel_rfl

noncomputable def n_law_wrong : List Str := ["_law_cell_here", "_law_candidates_here", "_law_strange_here", "_law_other", "_law_row_here", "_law_at", "_law_double"]
noncomputable def m_law_wrong : List S :=
  [.asg 2 (.call "_law_strange" [(.bin .fdiv (.var 0) (.cst (.int 8))), (.cst (.int 1)), (.cst (.int 1000000000))]),
    .asg 3 (.call "_law_strange" [(.bin .fdiv (.var 0) (.cst (.int 8))), (.cst (.int 0)), (.bin .sub (.var 1) (.cst (.int 1)))]),
    .asg 4 (.call "_law_row" [(.bin .fdiv (.var 0) (.cst (.int 72))), (.var 1)]),
    .asg 5 (.bin .mod (.bin .fdiv (.var 0) (.cst (.int 720))) (.bin .add (.bi .len [(.var 4)]) (.cst (.int 1)))),
    .iff (.cmp .eq (.bin .mod (.var 0) (.cst (.int 8))) (.cst (.int 0)))
      [.ret (.lst (.disp [(.cst (.int 1)), (.var 4)]))]
      [],
    .iff (.cmp .eq (.bin .mod (.var 0) (.cst (.int 8))) (.cst (.int 1)))
      [.ret (.tupE [(.cst (.int 1)), (.var 4), (.cst (.int 0))])]
      [],
    .iff (.cmp .eq (.bin .mod (.var 0) (.cst (.int 8))) (.cst (.int 2)))
      [.ret (.tupE [(.var 2), (.var 4)])]
      [],
    .iff (.cmp .eq (.bin .mod (.var 0) (.cst (.int 8))) (.cst (.int 3)))
      [.ret (.tupE [(.cst (.int 1)), (.lst (.cat (.lst (.cat (.lst (.upto (.var 4) (.var 5))) (.lst (.disp [(.var 3)])))) (.lst (.from_ (.var 4) (.var 5)))))])]
      [],
    .iff (.cmp .eq (.bin .mod (.var 0) (.cst (.int 8))) (.cst (.int 4)))
      [.ret (.tupE [(.cst (.int 1)), (.bi .tuple1 [(.var 4)])])]
      [],
    .iff (.and_ (.cmp .eq (.bin .mod (.var 0) (.cst (.int 8))) (.cst (.int 5))) (.cmp .ne (.var 4) (.lst (.disp []))))
      [.asg 6 (.idx (.var 4) (.bin .mod (.bin .fdiv (.var 0) (.cst (.int 97))) (.bi .len [(.var 4)]))),
      .ret (.tupE [(.cst (.int 1)), (.lst (.cat (.lst (.cat (.lst (.upto (.var 4) (.var 5))) (.lst (.disp [(.var 6)])))) (.lst (.from_ (.var 4) (.var 5)))))])]
      [],
    .ret (.idx (.lst (.disp [(.cst .none), (.cst (.int 7)), (.cst (.str "ballot")), (.tupE [(.cst (.int 1))]), (.tupE [])])) (.bin .mod (.bin .fdiv (.var 0) (.cst (.int 8))) (.cst (.int 5))))]
noncomputable def c_law_wrong : Scope := fnScope (stmtAt P 40)
theorem sq_law_wrong : (recOf P "_law_wrong").scope = c_law_wrong := by kernel_rfl
theorem bq_law_wrong : (recOf P "_law_wrong").body = fnBody (stmtAt P 40) := by kernel_rfl

noncomputable def n_law_is : List Str := ["_law_thing", "_law_low", "_law_high"]
noncomputable def m_law_is : List S :=
  [.ret (.and_ (.call "_law_whole" [(.var 0)]) (.and_ (.cmp .le (.var 1) (.var 0)) (.cmp .le (.var 0) (.var 2))))]
noncomputable def c_law_is : Scope := fnScope (stmtAt P 41)
theorem sq_law_is : (recOf P "_law_is").scope = c_law_is := by kernel_rfl
theorem bq_law_is : (recOf P "_law_is").body = fnBody (stmtAt P 41) := by kernel_rfl

noncomputable def n_law_good : List Str := ["_law_ballot", "_law_candidates_here", "_law_one"]
noncomputable def p_law_good_1 : E :=
  (.not_ (.call "_law_is" [(.var 2), (.cst (.int 0)), (.bin .sub (.var 1) (.cst (.int 1)))]))
noncomputable def e_law_good_1 : E :=
  (.var 2)
noncomputable def p_law_good_2 : E :=
  (.cmp .gt (.countI (.idx (.var 0) (.cst (.int 1))) (.var 2)) (.cst (.int 1)))
noncomputable def e_law_good_2 : E :=
  (.var 2)
noncomputable def m_law_good : List S :=
  [.iff (.or_ (.not_ (.bi .istuple [(.var 0)])) (.cmp .ne (.bi .len [(.var 0)]) (.cst (.int 2))))
      [.ret (.cst (.bool false))]
      [],
    .iff (.or_ (.not_ (.call "_law_is" [(.idx (.var 0) (.cst (.int 0))), (.cst (.int 1)), (.cst (.int 1000000000))])) (.not_ (.bi .islist [(.idx (.var 0) (.cst (.int 1)))])))
      [.ret (.cst (.bool false))]
      [],
    .iff (.cmp .ne (.lst (.comp e_law_good_1 [2] (.seq (.idx (.var 0) (.cst (.int 1)))) (some p_law_good_1))) (.lst (.disp [])))
      [.ret (.cst (.bool false))]
      [],
    .ret (.cmp .eq (.lst (.comp e_law_good_2 [2] (.seq (.idx (.var 0) (.cst (.int 1)))) (some p_law_good_2))) (.lst (.disp [])))]
noncomputable def c_law_good : Scope := fnScope (stmtAt P 42)
theorem sq_law_good : (recOf P "_law_good").scope = c_law_good := by kernel_rfl
theorem bq_law_good : (recOf P "_law_good").body = fnBody (stmtAt P 42) := by kernel_rfl

noncomputable def n_law_due : List Str := ["_law_candidates_here", "_law_ballots_here", "_law_seats", "_law_ballot"]
noncomputable def p_law_due_1 : E :=
  (.not_ (.call "_law_good" [(.var 3), (.var 0)]))
noncomputable def e_law_due_1 : E :=
  (.var 3)
noncomputable def m_law_due : List S :=
  [.iff (.not_ (.call "_law_is" [(.var 0), (.cst (.int 1)), (.cst (.int 12))]))
      [.ret (.cst (.str "BadCount"))]
      [],
    .iff (.not_ (.call "_law_is" [(.var 2), (.cst (.int 1)), (.var 0)]))
      [.ret (.cst (.str "BadSeats"))]
      [],
    .iff (.cmp .gt (.bi .len [(.var 1)]) (.cst (.int 40)))
      [.ret (.cst (.str "TooMany"))]
      [],
    .iff (.cmp .ne (.lst (.comp e_law_due_1 [3] (.seq (.var 1)) (some p_law_due_1))) (.lst (.disp [])))
      [.ret (.cst (.str "BadBallot"))]
      [],
    .ret (.cst (.str ""))]
noncomputable def c_law_due : Scope := fnScope (stmtAt P 43)
theorem sq_law_due : (recOf P "_law_due").scope = c_law_due := by kernel_rfl
theorem bq_law_due : (recOf P "_law_due").body = fnBody (stmtAt P 43) := by kernel_rfl

noncomputable def n_law_word : List Str := ["_law_error", "_law_found"]
noncomputable def m_law_word : List S :=
  [.asgM 1 (.disp []),
    .iff (.isA (.var 0) "BadCount")
      [.app 1 (.cst (.str "BadCount"))]
      [],
    .iff (.isA (.var 0) "BadSeats")
      [.app 1 (.cst (.str "BadSeats"))]
      [],
    .iff (.isA (.var 0) "TooMany")
      [.app 1 (.cst (.str "TooMany"))]
      [],
    .iff (.isA (.var 0) "BadBallot")
      [.app 1 (.cst (.str "BadBallot"))]
      [],
    .iff (.or_ (.cmp .ne (.lenM 1) (.cst (.int 1))) (.not_ (.isV (.var 0))))
      [.ret (.cst (.str "more"))]
      [],
    .ret (.borrow [1] (.idx (.var 1) (.cst (.int 0))))]
noncomputable def c_law_word : Scope := fnScope (stmtAt P 44)
theorem sq_law_word : (recOf P "_law_word").scope = c_law_word := by kernel_rfl
theorem bq_law_word : (recOf P "_law_word").body = fnBody (stmtAt P 44) := by kernel_rfl

noncomputable def n_law_told : List Str := ["_law_which", "_law_candidates_here", "_law_ballots_here", "_law_seats", "_law_error"]
noncomputable def m_law_told : List S :=
  [.try_ [.iff (.cmp .eq (.var 0) (.cst (.int 0)))
        [.expr (.make "Count" [(.var 1), (.var 2), (.var 3)])]
        [.iff (.cmp .eq (.var 0) (.cst (.int 1)))
          [.expr (.call "rounds_of" [(.var 1), (.var 2), (.var 3)])]
          [.expr (.call "seats_of" [(.var 1), (.var 2), (.var 3)])]]],
    .ret (.cst (.str ""))]
noncomputable def c_law_told : Scope := fnScope (stmtAt P 45)
theorem sq_law_told : (recOf P "_law_told").scope = c_law_told := by kernel_rfl
theorem bq_law_told : (recOf P "_law_told").body = fnBody (stmtAt P 45) := by kernel_rfl
noncomputable def r_law_told : SR :=
  (.alt (.iff (.cmp .eq (.var 0) (.cst (.int 0))) (.alt (.expr (.make "Count" [(.var 1), (.var 2), (.var 3)])) .dead .no) (.alt (.iff (.cmp .eq (.var 0) (.cst (.int 1))) (.alt (.expr (.call "rounds_of" [(.var 1), (.var 2), (.var 3)])) .dead .no) (.alt (.expr (.call "seats_of" [(.var 1), (.var 2), (.var 3)])) .dead .no)) .dead .no)) .dead .no)

noncomputable def n_law : List Str := ["_law_script", "_law_candidates_here", "_law_ballots_here", "_law_seats", "_law_way", "_law_asked", "_law_which", "_law_handed", "_law_found"]
noncomputable def m_law : List S :=
  [.asg 1 (.bin .add (.cst (.int 1)) (.bin .mod (.call "_law_cell" [(.var 0), (.cst (.int 0))]) (.cst (.int 6)))),
    .asgM 2 (.upto (.call "_law_ballots" [(.var 0), (.var 1)]) (.cst (.int 6))),
    .asg 3 (.bin .add (.cst (.int 1)) (.bin .mod (.call "_law_cell" [(.var 0), (.cst (.int 4))]) (.var 1))),
    .asg 4 (.call "_law_cell" [(.var 0), (.cst (.int 5))]),
    .iff (.cmp .eq (.bin .mod (.call "_law_cell" [(.var 0), (.cst (.int 55))]) (.cst (.int 6))) (.cst (.int 1)))
      [.app 2 (.tupE [(.cst (.int 1000000000)), (.call "_law_row" [(.bin .fdiv (.call "_law_cell" [(.var 0), (.cst (.int 55))]) (.cst (.int 6))), (.var 1)])])]
      [],
    .iff (.cmp .eq (.bin .mod (.var 4) (.cst (.int 3))) (.cst (.int 1)))
      [.ins 2 (.bin .mod (.bin .fdiv (.var 4) (.cst (.int 3))) (.bin .add (.lenM 2) (.cst (.int 1)))) (.call "_law_wrong" [(.call "_law_cell" [(.var 0), (.cst (.int 60))]), (.var 1)])]
      [],
    .freeze 2,
    .iff (.cmp .eq (.bin .mod (.call "_law_cell" [(.var 0), (.cst (.int 56))]) (.cst (.int 6))) (.cst (.int 1)))
      [.asg 2 (.lst (.cat (.var 2) (.lst (.rep (.tupE [(.cst (.int 1)), (.lst (.disp []))]) (.bin .add (.bin .sub (.cst (.int 41)) (.bi .len [(.var 2)])) (.bin .mod (.bin .fdiv (.call "_law_cell" [(.var 0), (.cst (.int 56))]) (.cst (.int 6))) (.cst (.int 3))))))))]
      [],
    .iff (.cmp .eq (.bin .mod (.call "_law_cell" [(.var 0), (.cst (.int 57))]) (.cst (.int 3))) (.cst (.int 1)))
      [.asg 3 (.call "_law_strange" [(.call "_law_cell" [(.var 0), (.cst (.int 61))]), (.cst (.int 1)), (.var 1)])]
      [],
    .asg 5 (.var 1),
    .iff (.cmp .eq (.bin .mod (.call "_law_cell" [(.var 0), (.cst (.int 58))]) (.cst (.int 4))) (.cst (.int 1)))
      [.asg 5 (.call "_law_strange" [(.call "_law_cell" [(.var 0), (.cst (.int 62))]), (.cst (.int 1)), (.cst (.int 12))])]
      [],
    .asg 6 (.bin .mod (.call "_law_cell" [(.var 0), (.cst (.int 59))]) (.cst (.int 3))),
    .asgM 7 (.ofSeq (.seq (.var 2))),
    .told 8 [7] "_law_told" [(.var 6), (.var 5), (.var 7), (.var 3)],
    .iff (.borrow [7] (.or_ (.cmp .ne (.var 8) (.call "_law_due" [(.var 5), (.var 2), (.var 3)])) (.cmp .ne (.var 7) (.var 2))))
      [.ret (.cst (.bool false))]
      [],
    .clr 7,
    .app 7 (.tupE [(.cst (.int 3)), (.lst (.disp [(.cst (.int 0))]))]),
    .ret (.borrow [7] (.cmp .eq (.call "_law_told" [(.var 6), (.cst (.int 1)), (.var 7), (.cst (.int 1))]) (.cst (.str ""))))]
noncomputable def c_law : Scope := fnScope (stmtAt P 46)
theorem sq_law : (recOf P "law").scope = c_law := by kernel_rfl
theorem bq_law : (recOf P "law").body = fnBody (stmtAt P 46) := by kernel_rfl

structure Has (X : Cx) (c : CA) : Prop where
  gnd : Gnd X
  calm : X.calm = true
  is_whole_is : FnIs X "is_whole" (recOf P "is_whole").scope ["thing", "least", "most"] (recOf P "is_whole").body
  is_row_is : FnIs X "is_row" (recOf P "is_row").scope ["thing", "candidates"] (recOf P "is_row").body
  is_ballot_is : FnIs X "is_ballot" (recOf P "is_ballot").scope ["thing", "candidates"] (recOf P "is_ballot").body
  need_vote_is : FnIs X "need_vote" (recOf P "need_vote").scope ["candidates", "ballots", "seats"] (recOf P "need_vote").body
  most_held_is : FnIs X "most_held" (recOf P "most_held").scope ["holdings", "standing"] (recOf P "most_held").body
  least_held_is : FnIs X "least_held" (recOf P "least_held").scope ["holdings", "standing"] (recOf P "least_held").body
  deed_of_is : FnIs X "deed_of" (recOf P "deed_of").scope ["holdings", "standing", "seats", "many"] (recOf P "deed_of").body
  place_of_is : FnIs X "place_of" (recOf P "place_of").scope ["row", "standing"] (recOf P "place_of").body
  held_is : FnIs X "held" (recOf P "held").scope ["candidates", "places", "left"] (recOf P "held").body
  all_weights_is : FnIs X "all_weights" (recOf P "all_weights").scope ["ballots"] (recOf P "all_weights").body
  quota_is : FnIs X "quota" (recOf P "quota").scope ["ballots", "seats"] (recOf P "quota").body
  parts_is : FnIs X "parts" (recOf P "parts").scope ["weights", "some"] (recOf P "parts").body
  Count_init_is : FnAt X c.init c_Count_init ["self", "candidates", "ballots", "seats"] (fnBody (methAt P 27 0))
  Count_step_is : FnAt X c.step c_Count_step ["self"] (fnBody (methAt P 27 1))
  Count_places_is : FnAt X c.places c_Count_places ["self"] (fnBody (methAt P 27 4))
  Count_left_is : FnAt X c.left c_Count_left ["self"] (fnBody (methAt P 27 5))
  Count_seats_is : FnAt X c.seats c_Count_seats ["self"] (fnBody (methAt P 27 6))
  rounds_of_is : FnIs X "rounds_of" (recOf P "rounds_of").scope ["candidates", "ballots", "seats"] (recOf P "rounds_of").body
  seats_of_is : FnIs X "seats_of" (recOf P "seats_of").scope ["candidates", "ballots", "seats"] (recOf P "seats_of").body
  law_cell_is : FnIs X "_law_cell" (recOf P "_law_cell").scope ["_law_script", "_law_k"] (recOf P "_law_cell").body
  law_whole_is : FnIs X "_law_whole" (recOf P "_law_whole").scope ["_law_found"] (recOf P "_law_whole").body
  law_row_is : FnIs X "_law_row" (recOf P "_law_row").scope ["_law_cell_here", "_law_candidates_here"] (recOf P "_law_row").body
  law_weight_is : FnIs X "_law_weight" (recOf P "_law_weight").scope ["_law_cell_here", "_law_kind"] (recOf P "_law_weight").body
  law_ballots_is : FnIs X "_law_ballots" (recOf P "_law_ballots").scope ["_law_script", "_law_candidates_here"] (recOf P "_law_ballots").body
  law_strange_is : FnIs X "_law_strange" (recOf P "_law_strange").scope ["_law_cell_here", "_law_low", "_law_high"] (recOf P "_law_strange").body
  law_wrong_is : FnIs X "_law_wrong" (recOf P "_law_wrong").scope ["_law_cell_here", "_law_candidates_here"] (recOf P "_law_wrong").body
  law_is_is : FnIs X "_law_is" (recOf P "_law_is").scope ["_law_thing", "_law_low", "_law_high"] (recOf P "_law_is").body
  law_good_is : FnIs X "_law_good" (recOf P "_law_good").scope ["_law_ballot", "_law_candidates_here"] (recOf P "_law_good").body
  law_due_is : FnIs X "_law_due" (recOf P "_law_due").scope ["_law_candidates_here", "_law_ballots_here", "_law_seats"] (recOf P "_law_due").body
  law_word_is : FnIs X "_law_word" (recOf P "_law_word").scope ["_law_error"] (recOf P "_law_word").body
  law_told_is : FnIs X "_law_told" (recOf P "_law_told").scope ["_law_which", "_law_candidates_here", "_law_ballots_here", "_law_seats"] (recOf P "_law_told").body
  law_is : FnIs X "law" (recOf P "law").scope ["_law_script"] (recOf P "law").body
  cnt : CountIs X c

theorem sc_is_whole : scOk c_is_whole n_is_whole ["thing", "least", "most"] = true := by kernel_rfl
theorem ok_is_whole {X : Cx} {c : CA} (H : Has X c) {n : Nat} : SSs X n c_is_whole n_is_whole (fnBody (stmtAt P 11)) m_is_whole :=
  (SSs_cons (SS_ret (SE_and (SE_isint H.gnd (SE_var (i := 0) (by kernel_rfl) (by kernel_rfl) (by kernel_rfl)) (by kernel_rfl) (by kernel_rfl) (by kernel_rfl)) (SE_and (SE_not (SE_isbool H.gnd (SE_var (i := 0) (by kernel_rfl) (by kernel_rfl) (by kernel_rfl)) (by kernel_rfl) (by kernel_rfl) (by kernel_rfl))) (SE_one (SE_cmp2 rfl rfl (SE_var (i := 1) (by kernel_rfl) (by kernel_rfl) (by kernel_rfl)) (SE_var (i := 0) (by kernel_rfl) (by kernel_rfl) (by kernel_rfl)) (SE_var (i := 2) (by kernel_rfl) (by kernel_rfl) (by kernel_rfl)) (by kernel_rfl)))))) SSs_nil)
theorem call_is_whole {X : Cx} {c : CA} (H : Has X c) {n : Nat} {d0 d1 d2 : D} {σ : Sg} {Q : D → Sg → Prop} (h : mExecs X n m_is_whole [.val d0, .val d1, .val d2] σ (fun fl xx σ' => (∀ b, σ b ≠ none → σ' b ≠ none) ∧ Q (flD fl) σ')) :
    CallSem X (n + 1) "is_whole" [d0, d1, d2] σ Q := call_intro H.gnd (sq_is_whole ▸ bq_is_whole ▸ H.is_whole_is) (ScOk.of sc_is_whole) (ok_is_whole H) rfl h

theorem sc_is_row : scOk c_is_row n_is_row ["thing", "candidates"] = true := by kernel_rfl
theorem ok_is_row {X : Cx} {c : CA} (H : Has X c) {n : Nat} : SSs X n c_is_row n_is_row (fnBody (stmtAt P 12)) m_is_row :=
  (SSs_cons (SS_if (ST_not (ST_plain (SE_islist H.gnd (SE_var (i := 0) (by kernel_rfl) (by kernel_rfl) (by kernel_rfl)) (by kernel_rfl) (by kernel_rfl) (by kernel_rfl)) (by kernel_rfl))) (SSs_cons (SS_ret SE_bool) SSs_nil) SSs_nil) (SSs_cons (SS_for (tgt_of (by kernel_rfl)) (SI_enum H.calm H.gnd (SE_var (i := 0) (by kernel_rfl) (by kernel_rfl) (by kernel_rfl)) (by kernel_rfl) (by kernel_rfl)) (SSs_cons (SS_if (ST_or (ST_not (ST_plain (SE_call H.gnd H.is_whole_is.isFn (SEs_cons (SE_var (i := 3) (by kernel_rfl) (by kernel_rfl) (by kernel_rfl)) (SEs_cons SE_int (SEs_cons (SE_bin rfl (SE_var (i := 1) (by kernel_rfl) (by kernel_rfl) (by kernel_rfl)) SE_int) SEs_nil (by kernel_rfl)) (by kernel_rfl)) (by kernel_rfl)) (by kernel_rfl) (by kernel_rfl) (by kernel_rfl)) (by kernel_rfl))) (ST_one_or (ST_cmp rfl (SE_var (i := 3) (by kernel_rfl) (by kernel_rfl) (by kernel_rfl)) (SE_lst (SL_upto (SE_var (i := 0) (by kernel_rfl) (by kernel_rfl) (by kernel_rfl)) (SE_var (i := 2) (by kernel_rfl) (by kernel_rfl) (by kernel_rfl)))) (by kernel_rfl)))) (SSs_cons (SS_ret SE_bool) SSs_nil) SSs_nil) SSs_nil) (by kernel_rfl)) (SSs_cons (SS_ret SE_bool) SSs_nil)))
theorem call_is_row {X : Cx} {c : CA} (H : Has X c) {n : Nat} {d0 d1 : D} {σ : Sg} {Q : D → Sg → Prop} (h : mExecs X n m_is_row [.val d0, .val d1, .unb, .unb] σ (fun fl xx σ' => (∀ b, σ b ≠ none → σ' b ≠ none) ∧ Q (flD fl) σ')) :
    CallSem X (n + 1) "is_row" [d0, d1] σ Q := call_intro H.gnd (sq_is_row ▸ bq_is_row ▸ H.is_row_is) (ScOk.of sc_is_row) (ok_is_row H) rfl h

theorem sc_is_ballot : scOk c_is_ballot n_is_ballot ["thing", "candidates"] = true := by kernel_rfl
theorem ok_is_ballot {X : Cx} {c : CA} (H : Has X c) {n : Nat} : SSs X n c_is_ballot n_is_ballot (fnBody (stmtAt P 13)) m_is_ballot :=
  (SSs_cons (SS_if (ST_or (ST_not (ST_plain (SE_istuple H.gnd (SE_var (i := 0) (by kernel_rfl) (by kernel_rfl) (by kernel_rfl)) (by kernel_rfl) (by kernel_rfl) (by kernel_rfl)) (by kernel_rfl))) (ST_one_or (ST_cmp rfl (SE_len H.gnd (SE_var (i := 0) (by kernel_rfl) (by kernel_rfl) (by kernel_rfl)) (by kernel_rfl) (by kernel_rfl)) SE_int (by kernel_rfl)))) (SSs_cons (SS_ret SE_bool) SSs_nil) SSs_nil) (SSs_cons (SS_ret (SE_and (SE_call H.gnd H.is_whole_is.isFn (SEs_cons (SE_idx (SE_var (i := 0) (by kernel_rfl) (by kernel_rfl) (by kernel_rfl)) SE_int (by kernel_rfl)) (SEs_cons SE_int (SEs_cons (SE_glob H.gnd (by kernel_rfl) (by kernel_rfl)) SEs_nil (by kernel_rfl)) (by kernel_rfl)) (by kernel_rfl)) (by kernel_rfl) (by kernel_rfl) (by kernel_rfl)) (SE_one (SE_call H.gnd H.is_row_is.isFn (SEs_cons (SE_idx (SE_var (i := 0) (by kernel_rfl) (by kernel_rfl) (by kernel_rfl)) SE_int (by kernel_rfl)) (SEs_cons (SE_var (i := 1) (by kernel_rfl) (by kernel_rfl) (by kernel_rfl)) SEs_nil (by kernel_rfl)) (by kernel_rfl)) (by kernel_rfl) (by kernel_rfl) (by kernel_rfl))))) SSs_nil))
theorem call_is_ballot {X : Cx} {c : CA} (H : Has X c) {n : Nat} {d0 d1 : D} {σ : Sg} {Q : D → Sg → Prop} (h : mExecs X n m_is_ballot [.val d0, .val d1] σ (fun fl xx σ' => (∀ b, σ b ≠ none → σ' b ≠ none) ∧ Q (flD fl) σ')) :
    CallSem X (n + 1) "is_ballot" [d0, d1] σ Q := call_intro H.gnd (sq_is_ballot ▸ bq_is_ballot ▸ H.is_ballot_is) (ScOk.of sc_is_ballot) (ok_is_ballot H) rfl h

theorem sc_need_vote : scOk c_need_vote n_need_vote ["candidates", "ballots", "seats"] = true := by kernel_rfl
theorem ok_need_vote {X : Cx} {c : CA} (H : Has X c) {n : Nat} : SSs X n c_need_vote n_need_vote (fnBody (stmtAt P 14)) m_need_vote :=
  (SSs_cons (SS_if (ST_not (ST_plain (SE_call H.gnd H.is_whole_is.isFn (SEs_cons (SE_var (i := 0) (by kernel_rfl) (by kernel_rfl) (by kernel_rfl)) (SEs_cons SE_int (SEs_cons (SE_glob H.gnd (by kernel_rfl) (by kernel_rfl)) SEs_nil (by kernel_rfl)) (by kernel_rfl)) (by kernel_rfl)) (by kernel_rfl) (by kernel_rfl) (by kernel_rfl)) (by kernel_rfl))) (SSs_cons SS_dead SSs_nil) SSs_nil) (SSs_cons (SS_if (ST_not (ST_plain (SE_call H.gnd H.is_whole_is.isFn (SEs_cons (SE_var (i := 2) (by kernel_rfl) (by kernel_rfl) (by kernel_rfl)) (SEs_cons SE_int (SEs_cons (SE_var (i := 0) (by kernel_rfl) (by kernel_rfl) (by kernel_rfl)) SEs_nil (by kernel_rfl)) (by kernel_rfl)) (by kernel_rfl)) (by kernel_rfl) (by kernel_rfl) (by kernel_rfl)) (by kernel_rfl))) (SSs_cons SS_dead SSs_nil) SSs_nil) (SSs_cons (SS_if (ST_cmp rfl (SE_len H.gnd (SE_var (i := 1) (by kernel_rfl) (by kernel_rfl) (by kernel_rfl)) (by kernel_rfl) (by kernel_rfl)) (SE_glob H.gnd (by kernel_rfl) (by kernel_rfl)) (by kernel_rfl)) (SSs_cons SS_dead SSs_nil) SSs_nil) (SSs_cons (SS_for (tgt_of (by kernel_rfl)) (SI_seq H.calm (SE_var (i := 1) (by kernel_rfl) (by kernel_rfl) (by kernel_rfl))) (SSs_cons (SS_if (ST_not (ST_plain (SE_call H.gnd H.is_ballot_is.isFn (SEs_cons (SE_var (i := 3) (by kernel_rfl) (by kernel_rfl) (by kernel_rfl)) (SEs_cons (SE_var (i := 0) (by kernel_rfl) (by kernel_rfl) (by kernel_rfl)) SEs_nil (by kernel_rfl)) (by kernel_rfl)) (by kernel_rfl) (by kernel_rfl) (by kernel_rfl)) (by kernel_rfl))) (SSs_cons SS_dead SSs_nil) SSs_nil) SSs_nil) (by kernel_rfl)) SSs_nil))))
theorem call_need_vote {X : Cx} {c : CA} (H : Has X c) {n : Nat} {d0 d1 d2 : D} {σ : Sg} {Q : D → Sg → Prop} (h : mExecs X n m_need_vote [.val d0, .val d1, .val d2, .unb] σ (fun fl xx σ' => (∀ b, σ b ≠ none → σ' b ≠ none) ∧ Q (flD fl) σ')) :
    CallSem X (n + 1) "need_vote" [d0, d1, d2] σ Q := call_intro H.gnd (sq_need_vote ▸ bq_need_vote ▸ H.need_vote_is) (ScOk.of sc_need_vote) (ok_need_vote H) rfl h

theorem sc_most_held : scOk c_most_held n_most_held ["holdings", "standing"] = true := by kernel_rfl
theorem ok_most_held {X : Cx} {c : CA} (H : Has X c) {n : Nat} : SSs X n c_most_held n_most_held (fnBody (stmtAt P 16)) m_most_held :=
  (SSs_cons (SS_asg (i := 2) (by kernel_rfl) (by kernel_rfl) (SE_idx (SE_var (i := 1) (by kernel_rfl) (by kernel_rfl) (by kernel_rfl)) SE_int (by kernel_rfl)) (by kernel_rfl)) (SSs_cons (SS_for (tgt_of (by kernel_rfl)) (SI_seq H.calm (SE_var (i := 1) (by kernel_rfl) (by kernel_rfl) (by kernel_rfl))) (SSs_cons (SS_if (ST_cmp rfl (SE_idx (SE_var (i := 0) (by kernel_rfl) (by kernel_rfl) (by kernel_rfl)) (SE_var (i := 3) (by kernel_rfl) (by kernel_rfl) (by kernel_rfl)) (by kernel_rfl)) (SE_idx (SE_var (i := 0) (by kernel_rfl) (by kernel_rfl) (by kernel_rfl)) (SE_var (i := 2) (by kernel_rfl) (by kernel_rfl) (by kernel_rfl)) (by kernel_rfl)) (by kernel_rfl)) (SSs_cons (SS_asg (i := 2) (by kernel_rfl) (by kernel_rfl) (SE_var (i := 3) (by kernel_rfl) (by kernel_rfl) (by kernel_rfl)) (by kernel_rfl)) SSs_nil) SSs_nil) SSs_nil) (by kernel_rfl)) (SSs_cons (SS_ret (SE_var (i := 2) (by kernel_rfl) (by kernel_rfl) (by kernel_rfl))) SSs_nil)))
theorem call_most_held {X : Cx} {c : CA} (H : Has X c) {n : Nat} {d0 d1 : D} {σ : Sg} {Q : D → Sg → Prop} (h : mExecs X n m_most_held [.val d0, .val d1, .unb, .unb] σ (fun fl xx σ' => (∀ b, σ b ≠ none → σ' b ≠ none) ∧ Q (flD fl) σ')) :
    CallSem X (n + 1) "most_held" [d0, d1] σ Q := call_intro H.gnd (sq_most_held ▸ bq_most_held ▸ H.most_held_is) (ScOk.of sc_most_held) (ok_most_held H) rfl h

theorem sc_least_held : scOk c_least_held n_least_held ["holdings", "standing"] = true := by kernel_rfl
theorem ok_least_held {X : Cx} {c : CA} (H : Has X c) {n : Nat} : SSs X n c_least_held n_least_held (fnBody (stmtAt P 17)) m_least_held :=
  (SSs_cons (SS_asg (i := 2) (by kernel_rfl) (by kernel_rfl) (SE_idx (SE_var (i := 1) (by kernel_rfl) (by kernel_rfl) (by kernel_rfl)) SE_int (by kernel_rfl)) (by kernel_rfl)) (SSs_cons (SS_for (tgt_of (by kernel_rfl)) (SI_seq H.calm (SE_var (i := 1) (by kernel_rfl) (by kernel_rfl) (by kernel_rfl))) (SSs_cons (SS_if (ST_cmp rfl (SE_idx (SE_var (i := 0) (by kernel_rfl) (by kernel_rfl) (by kernel_rfl)) (SE_var (i := 3) (by kernel_rfl) (by kernel_rfl) (by kernel_rfl)) (by kernel_rfl)) (SE_idx (SE_var (i := 0) (by kernel_rfl) (by kernel_rfl) (by kernel_rfl)) (SE_var (i := 2) (by kernel_rfl) (by kernel_rfl) (by kernel_rfl)) (by kernel_rfl)) (by kernel_rfl)) (SSs_cons (SS_asg (i := 2) (by kernel_rfl) (by kernel_rfl) (SE_var (i := 3) (by kernel_rfl) (by kernel_rfl) (by kernel_rfl)) (by kernel_rfl)) SSs_nil) SSs_nil) SSs_nil) (by kernel_rfl)) (SSs_cons (SS_ret (SE_var (i := 2) (by kernel_rfl) (by kernel_rfl) (by kernel_rfl))) SSs_nil)))
theorem call_least_held {X : Cx} {c : CA} (H : Has X c) {n : Nat} {d0 d1 : D} {σ : Sg} {Q : D → Sg → Prop} (h : mExecs X n m_least_held [.val d0, .val d1, .unb, .unb] σ (fun fl xx σ' => (∀ b, σ b ≠ none → σ' b ≠ none) ∧ Q (flD fl) σ')) :
    CallSem X (n + 1) "least_held" [d0, d1] σ Q := call_intro H.gnd (sq_least_held ▸ bq_least_held ▸ H.least_held_is) (ScOk.of sc_least_held) (ok_least_held H) rfl h

theorem sc_deed_of : scOk c_deed_of n_deed_of ["holdings", "standing", "seats", "many"] = true := by kernel_rfl
theorem ok_deed_of {X : Cx} {c : CA} (H : Has X c) {n : Nat} : SSs X n c_deed_of n_deed_of (fnBody (stmtAt P 18)) m_deed_of :=
  (SSs_cons (SS_if (ST_cmp rfl (SE_var (i := 2) (by kernel_rfl) (by kernel_rfl) (by kernel_rfl)) SE_int (by kernel_rfl)) (SSs_cons (SS_ret SE_none) SSs_nil) SSs_nil) (SSs_cons (SS_asg (i := 4) (by kernel_rfl) (by kernel_rfl) (SE_call H.gnd H.most_held_is.isFn (SEs_cons (SE_var (i := 0) (by kernel_rfl) (by kernel_rfl) (by kernel_rfl)) (SEs_cons (SE_var (i := 1) (by kernel_rfl) (by kernel_rfl) (by kernel_rfl)) SEs_nil (by kernel_rfl)) (by kernel_rfl)) (by kernel_rfl) (by kernel_rfl) (by kernel_rfl)) (by kernel_rfl)) (SSs_cons (SS_if (ST_or (ST_cmp rfl (SE_len H.gnd (SE_var (i := 1) (by kernel_rfl) (by kernel_rfl) (by kernel_rfl)) (by kernel_rfl) (by kernel_rfl)) (SE_var (i := 2) (by kernel_rfl) (by kernel_rfl) (by kernel_rfl)) (by kernel_rfl)) (ST_one_or (ST_cmp rfl (SE_idx (SE_var (i := 0) (by kernel_rfl) (by kernel_rfl) (by kernel_rfl)) (SE_var (i := 4) (by kernel_rfl) (by kernel_rfl) (by kernel_rfl)) (by kernel_rfl)) (SE_var (i := 3) (by kernel_rfl) (by kernel_rfl) (by kernel_rfl)) (by kernel_rfl)))) (SSs_cons (SS_ret (SE_tup (SEs_cons SE_str (SEs_cons (SE_var (i := 4) (by kernel_rfl) (by kernel_rfl) (by kernel_rfl)) SEs_nil (by kernel_rfl)) (by kernel_rfl)))) SSs_nil) SSs_nil) (SSs_cons (SS_ret (SE_tup (SEs_cons SE_str (SEs_cons (SE_call H.gnd H.least_held_is.isFn (SEs_cons (SE_var (i := 0) (by kernel_rfl) (by kernel_rfl) (by kernel_rfl)) (SEs_cons (SE_var (i := 1) (by kernel_rfl) (by kernel_rfl) (by kernel_rfl)) SEs_nil (by kernel_rfl)) (by kernel_rfl)) (by kernel_rfl) (by kernel_rfl) (by kernel_rfl)) SEs_nil (by kernel_rfl)) (by kernel_rfl)))) SSs_nil))))
theorem call_deed_of {X : Cx} {c : CA} (H : Has X c) {n : Nat} {d0 d1 d2 d3 : D} {σ : Sg} {Q : D → Sg → Prop} (h : mExecs X n m_deed_of [.val d0, .val d1, .val d2, .val d3, .unb] σ (fun fl xx σ' => (∀ b, σ b ≠ none → σ' b ≠ none) ∧ Q (flD fl) σ')) :
    CallSem X (n + 1) "deed_of" [d0, d1, d2, d3] σ Q := call_intro H.gnd (sq_deed_of ▸ bq_deed_of ▸ H.deed_of_is) (ScOk.of sc_deed_of) (ok_deed_of H) rfl h

theorem sc_place_of : scOk c_place_of n_place_of ["row", "standing"] = true := by kernel_rfl
theorem ok_place_of {X : Cx} {c : CA} (H : Has X c) {n : Nat} : SSs X n c_place_of n_place_of (fnBody (stmtAt P 20)) m_place_of :=
  (SSs_cons (SS_for (tgt_of (by kernel_rfl)) (SI_seq H.calm (SE_var (i := 0) (by kernel_rfl) (by kernel_rfl) (by kernel_rfl))) (SSs_cons (SS_if (ST_cmp rfl (SE_var (i := 2) (by kernel_rfl) (by kernel_rfl) (by kernel_rfl)) (SE_var (i := 1) (by kernel_rfl) (by kernel_rfl) (by kernel_rfl)) (by kernel_rfl)) (SSs_cons (SS_ret (SE_var (i := 2) (by kernel_rfl) (by kernel_rfl) (by kernel_rfl))) SSs_nil) SSs_nil) SSs_nil) (by kernel_rfl)) (SSs_cons (SS_ret SE_none) SSs_nil))
theorem call_place_of {X : Cx} {c : CA} (H : Has X c) {n : Nat} {d0 d1 : D} {σ : Sg} {Q : D → Sg → Prop} (h : mExecs X n m_place_of [.val d0, .val d1, .unb] σ (fun fl xx σ' => (∀ b, σ b ≠ none → σ' b ≠ none) ∧ Q (flD fl) σ')) :
    CallSem X (n + 1) "place_of" [d0, d1] σ Q := call_intro H.gnd (sq_place_of ▸ bq_place_of ▸ H.place_of_is) (ScOk.of sc_place_of) (ok_place_of H) rfl h

theorem sc_held : scOk c_held n_held ["candidates", "places", "left"] = true := by kernel_rfl
theorem ok_held {X : Cx} {c : CA} (H : Has X c) {n : Nat} : SSs X n c_held n_held (fnBody (stmtAt P 21)) m_held :=
  (SSs_cons (SS_asgM (i := 3) (by kernel_rfl) (by kernel_rfl) (SL_rep SE_int (SE_var (i := 0) (by kernel_rfl) (by kernel_rfl) (by kernel_rfl)) (by kernel_rfl)) (by kernel_rfl)) (SSs_cons (SS_for (tgt_of (by kernel_rfl)) (SI_zip H.calm H.gnd (SE_var (i := 1) (by kernel_rfl) (by kernel_rfl) (by kernel_rfl)) (SE_var (i := 2) (by kernel_rfl) (by kernel_rfl) (by kernel_rfl)) (by kernel_rfl) (by kernel_rfl) (by kernel_rfl)) (SSs_cons (SS_if (ST_cmp rfl (SE_var (i := 4) (by kernel_rfl) (by kernel_rfl) (by kernel_rfl)) SE_none (by kernel_rfl)) (SSs_cons (SS_setI (i := 3) (by kernel_rfl) (by kernel_rfl) (by kernel_rfl) (SE_borrow (by kernel_rfl) (SE_bin rfl (SE_idx (SE_var (i := 3) (by kernel_rfl) (by kernel_rfl) (by kernel_rfl)) (SE_var (i := 4) (by kernel_rfl) (by kernel_rfl) (by kernel_rfl)) (by kernel_rfl)) (SE_var (i := 5) (by kernel_rfl) (by kernel_rfl) (by kernel_rfl)))) (SE_var (i := 4) (by kernel_rfl) (by kernel_rfl) (by kernel_rfl)) (by kernel_rfl)) SSs_nil) SSs_nil) SSs_nil) (by kernel_rfl)) (SSs_freeze (i := 3) (x := "found") (by kernel_rfl) (by kernel_rfl) (SSs_cons (SS_ret (SE_var (i := 3) (by kernel_rfl) (by kernel_rfl) (by kernel_rfl))) SSs_nil))))
theorem call_held {X : Cx} {c : CA} (H : Has X c) {n : Nat} {d0 d1 d2 : D} {σ : Sg} {Q : D → Sg → Prop} (h : mExecs X n m_held [.val d0, .val d1, .val d2, .unb, .unb, .unb] σ (fun fl xx σ' => (∀ b, σ b ≠ none → σ' b ≠ none) ∧ Q (flD fl) σ')) :
    CallSem X (n + 1) "held" [d0, d1, d2] σ Q := call_intro H.gnd (sq_held ▸ bq_held ▸ H.held_is) (ScOk.of sc_held) (ok_held H) rfl h

theorem sc_all_weights : scOk c_all_weights n_all_weights ["ballots"] = true := by kernel_rfl
theorem ok_all_weights {X : Cx} {c : CA} (H : Has X c) {n : Nat} : SSs X n c_all_weights n_all_weights (fnBody (stmtAt P 23)) m_all_weights :=
  (SSs_cons (SS_ret (SE_sum H.calm H.gnd (SE_lst (SL_comp (comp_of (by kernel_rfl)) (tgtL_of (by kernel_rfl)) (SI_seq H.calm (SE_var (i := 0) (by kernel_rfl) (by kernel_rfl) (by kernel_rfl))) (SE_idx (SE_var (i := 1) (by kernel_rfl) (by kernel_rfl) (by kernel_rfl)) SE_int (by kernel_rfl)) CondOk.nil (by kernel_rfl))) (by kernel_rfl) (by kernel_rfl))) SSs_nil)
theorem call_all_weights {X : Cx} {c : CA} (H : Has X c) {n : Nat} {d0 : D} {σ : Sg} {Q : D → Sg → Prop} (h : mExecs X n m_all_weights [.val d0, .unb] σ (fun fl xx σ' => (∀ b, σ b ≠ none → σ' b ≠ none) ∧ Q (flD fl) σ')) :
    CallSem X (n + 1) "all_weights" [d0] σ Q := call_intro H.gnd (sq_all_weights ▸ bq_all_weights ▸ H.all_weights_is) (ScOk.of sc_all_weights) (ok_all_weights H) rfl h

theorem sc_quota : scOk c_quota n_quota ["ballots", "seats"] = true := by kernel_rfl
theorem ok_quota {X : Cx} {c : CA} (H : Has X c) {n : Nat} : SSs X n c_quota n_quota (fnBody (stmtAt P 24)) m_quota :=
  (SSs_cons (SS_ret (SE_bin rfl (SE_bin rfl (SE_call H.gnd H.all_weights_is.isFn (SEs_cons (SE_var (i := 0) (by kernel_rfl) (by kernel_rfl) (by kernel_rfl)) SEs_nil (by kernel_rfl)) (by kernel_rfl) (by kernel_rfl) (by kernel_rfl)) (SE_bin rfl (SE_var (i := 1) (by kernel_rfl) (by kernel_rfl) (by kernel_rfl)) SE_int)) SE_int)) SSs_nil)
theorem call_quota {X : Cx} {c : CA} (H : Has X c) {n : Nat} {d0 d1 : D} {σ : Sg} {Q : D → Sg → Prop} (h : mExecs X n m_quota [.val d0, .val d1] σ (fun fl xx σ' => (∀ b, σ b ≠ none → σ' b ≠ none) ∧ Q (flD fl) σ')) :
    CallSem X (n + 1) "quota" [d0, d1] σ Q := call_intro H.gnd (sq_quota ▸ bq_quota ▸ H.quota_is) (ScOk.of sc_quota) (ok_quota H) rfl h

theorem sc_parts : scOk c_parts n_parts ["weights", "some"] = true := by kernel_rfl
theorem ok_parts {X : Cx} {c : CA} (H : Has X c) {n : Nat} : SSs X n c_parts n_parts (fnBody (stmtAt P 25)) m_parts :=
  (SSs_cons (SS_asg (i := 2) (by kernel_rfl) (by kernel_rfl) (SE_sum H.calm H.gnd (SE_var (i := 0) (by kernel_rfl) (by kernel_rfl) (by kernel_rfl)) (by kernel_rfl) (by kernel_rfl)) (by kernel_rfl)) (SSs_cons (SS_asgM (i := 3) (by kernel_rfl) (by kernel_rfl) (SL_disp SEs_nil) (by kernel_rfl)) (SSs_cons (SS_asg (i := 4) (by kernel_rfl) (by kernel_rfl) SE_int (by kernel_rfl)) (SSs_cons (SS_asg (i := 5) (by kernel_rfl) (by kernel_rfl) SE_int (by kernel_rfl)) (SSs_cons (SS_for (tgt_of (by kernel_rfl)) (SI_seq H.calm (SE_var (i := 0) (by kernel_rfl) (by kernel_rfl) (by kernel_rfl))) (SSs_cons (SS_asg (i := 4) (by kernel_rfl) (by kernel_rfl) (SE_bin rfl (SE_var (i := 4) (by kernel_rfl) (by kernel_rfl) (by kernel_rfl)) (SE_var (i := 6) (by kernel_rfl) (by kernel_rfl) (by kernel_rfl))) (by kernel_rfl)) (SSs_cons (SS_asg (i := 7) (by kernel_rfl) (by kernel_rfl) SE_int (by kernel_rfl)) (SSs_cons (SS_if (ST_cmp rfl (SE_var (i := 2) (by kernel_rfl) (by kernel_rfl) (by kernel_rfl)) SE_int (by kernel_rfl)) (SSs_cons (SS_asg (i := 7) (by kernel_rfl) (by kernel_rfl) (SE_bin rfl (SE_bin rfl (SE_bin rfl (SE_var (i := 4) (by kernel_rfl) (by kernel_rfl) (by kernel_rfl)) (SE_var (i := 1) (by kernel_rfl) (by kernel_rfl) (by kernel_rfl))) (SE_var (i := 2) (by kernel_rfl) (by kernel_rfl) (by kernel_rfl))) (SE_var (i := 5) (by kernel_rfl) (by kernel_rfl) (by kernel_rfl))) (by kernel_rfl)) SSs_nil) SSs_nil) (SSs_cons (SS_app (i := 3) (by kernel_rfl) (by kernel_rfl) (by kernel_rfl) (SE_var (i := 7) (by kernel_rfl) (by kernel_rfl) (by kernel_rfl)) (by kernel_rfl) (by kernel_rfl)) (SSs_cons (SS_asg (i := 5) (by kernel_rfl) (by kernel_rfl) (SE_bin rfl (SE_var (i := 5) (by kernel_rfl) (by kernel_rfl) (by kernel_rfl)) (SE_var (i := 7) (by kernel_rfl) (by kernel_rfl) (by kernel_rfl))) (by kernel_rfl)) SSs_nil))))) (by kernel_rfl)) (SSs_freeze (i := 3) (x := "found") (by kernel_rfl) (by kernel_rfl) (SSs_cons (SS_ret (SE_var (i := 3) (by kernel_rfl) (by kernel_rfl) (by kernel_rfl))) SSs_nil)))))))
theorem call_parts {X : Cx} {c : CA} (H : Has X c) {n : Nat} {d0 d1 : D} {σ : Sg} {Q : D → Sg → Prop} (h : mExecs X n m_parts [.val d0, .val d1, .unb, .unb, .unb, .unb, .unb, .unb] σ (fun fl xx σ' => (∀ b, σ b ≠ none → σ' b ≠ none) ∧ Q (flD fl) σ')) :
    CallSem X (n + 1) "parts" [d0, d1] σ Q := call_intro H.gnd (sq_parts ▸ bq_parts ▸ H.parts_is) (ScOk.of sc_parts) (ok_parts H) rfl h

theorem sc_Count_init : scOk c_Count_init n_Count_init ["self", "candidates", "ballots", "seats"] = true := by kernel_rfl
theorem ok_Count_init {X : Cx} {c : CA} (H : Has X c) {n : Nat} : SSs X n c_Count_init n_Count_init (fnBody (methAt P 27 0)) m_Count_init :=
  (SSs_cons (SS_expr (SE_call H.gnd H.need_vote_is.isFn (SEs_cons (SE_var (i := 1) (by kernel_rfl) (by kernel_rfl) (by kernel_rfl)) (SEs_cons (SE_var (i := 2) (by kernel_rfl) (by kernel_rfl) (by kernel_rfl)) (SEs_cons (SE_var (i := 3) (by kernel_rfl) (by kernel_rfl) (by kernel_rfl)) SEs_nil (by kernel_rfl)) (by kernel_rfl)) (by kernel_rfl)) (by kernel_rfl) (by kernel_rfl) (by kernel_rfl)) (by kernel_rfl)) (SSs_cons (SS_setA (SE_var (i := 0) (by kernel_rfl) (by kernel_rfl) (by kernel_rfl)) (SE_var (i := 1) (by kernel_rfl) (by kernel_rfl) (by kernel_rfl)) fun xx => rfl) (SSs_cons (SS_setA (SE_var (i := 0) (by kernel_rfl) (by kernel_rfl) (by kernel_rfl)) (SE_var (i := 3) (by kernel_rfl) (by kernel_rfl) (by kernel_rfl)) fun xx => rfl) (SSs_cons (SS_setA (SE_var (i := 0) (by kernel_rfl) (by kernel_rfl) (by kernel_rfl)) (SE_call H.gnd H.quota_is.isFn (SEs_cons (SE_var (i := 2) (by kernel_rfl) (by kernel_rfl) (by kernel_rfl)) (SEs_cons (SE_var (i := 3) (by kernel_rfl) (by kernel_rfl) (by kernel_rfl)) SEs_nil (by kernel_rfl)) (by kernel_rfl)) (by kernel_rfl) (by kernel_rfl) (by kernel_rfl)) fun xx => rfl) (SSs_cons (SS_setA (SE_var (i := 0) (by kernel_rfl) (by kernel_rfl) (by kernel_rfl)) (SE_lst (SL_comp (comp_of (by kernel_rfl)) (tgtL_of (by kernel_rfl)) (SI_seq H.calm (SE_var (i := 2) (by kernel_rfl) (by kernel_rfl) (by kernel_rfl))) (SE_tuple1 H.gnd (SE_idx (SE_var (i := 4) (by kernel_rfl) (by kernel_rfl) (by kernel_rfl)) SE_int (by kernel_rfl)) (by kernel_rfl) (by kernel_rfl)) CondOk.nil (by kernel_rfl))) fun xx => rfl) (SSs_cons (SS_setA (SE_var (i := 0) (by kernel_rfl) (by kernel_rfl) (by kernel_rfl)) (SE_track (SL_disp (SEs_cons (SE_tup (SEs_cons (SE_lst (SL_listRange H.calm H.gnd (SE_var (i := 1) (by kernel_rfl) (by kernel_rfl) (by kernel_rfl)) (by kernel_rfl) (by kernel_rfl) (by kernel_rfl))) (SEs_cons (SE_lst (SL_comp (comp_of (by kernel_rfl)) (tgtL_of (by kernel_rfl)) (SI_seq H.calm (SE_var (i := 2) (by kernel_rfl) (by kernel_rfl) (by kernel_rfl))) (SE_idx (SE_var (i := 4) (by kernel_rfl) (by kernel_rfl) (by kernel_rfl)) SE_int (by kernel_rfl)) CondOk.nil (by kernel_rfl))) (SEs_cons (SE_lst (SL_disp SEs_nil)) SEs_nil (by kernel_rfl)) (by kernel_rfl)) (by kernel_rfl))) SEs_nil (by kernel_rfl)))) fun xx => rfl) SSs_nil))))))
theorem call_Count_init {X : Cx} {c : CA} (H : Has X c) {n : Nat} {d0 d1 d2 d3 : D} {σ : Sg} {Q : D → Sg → Prop} (h : mExecs X n m_Count_init [.val d0, .val d1, .val d2, .val d3, .unb] σ (fun fl xx σ' => (∀ b, σ b ≠ none → σ' b ≠ none) ∧ Q (flD fl) σ')) :
    CallA X (n + 1) (.ref c.init) [d0, d1, d2, d3] σ Q := call_at H.gnd H.Count_init_is (ScOk.of sc_Count_init) (ok_Count_init H) rfl h

theorem sc_Count_step : scOk c_Count_step n_Count_step ["self"] = true := by kernel_rfl
theorem ok_Count_step {X : Cx} {c : CA} (H : Has X c) {n : Nat} : SSs X n c_Count_step n_Count_step (fnBody (methAt P 27 1)) m_Count_step :=
  (SSs_cons (SS_unp H.calm (tgts_of (by kernel_rfl)) (SE_last (SE_attr (SE_var (i := 0) (by kernel_rfl) (by kernel_rfl) (by kernel_rfl)))) (by kernel_rfl) (by kernel_rfl)) (SSs_cons (SS_asg (i := 1) (by kernel_rfl) (by kernel_rfl) (SE_meth (SE_var (i := 0) (by kernel_rfl) (by kernel_rfl) (by kernel_rfl)) (by kernel_rfl)) (by kernel_rfl)) (SSs_cons (SS_asg (i := 2) (by kernel_rfl) (by kernel_rfl) (SE_call H.gnd H.held_is.isFn (SEs_cons (SE_attr (SE_var (i := 0) (by kernel_rfl) (by kernel_rfl) (by kernel_rfl))) (SEs_cons (SE_var (i := 1) (by kernel_rfl) (by kernel_rfl) (by kernel_rfl)) (SEs_cons (SE_var (i := 11) (by kernel_rfl) (by kernel_rfl) (by kernel_rfl)) SEs_nil (by kernel_rfl)) (by kernel_rfl)) (by kernel_rfl)) (by kernel_rfl) (by kernel_rfl) (by kernel_rfl)) (by kernel_rfl)) (SSs_cons (SS_asg (i := 3) (by kernel_rfl) (by kernel_rfl) (SE_call H.gnd H.deed_of_is.isFn (SEs_cons (SE_var (i := 2) (by kernel_rfl) (by kernel_rfl) (by kernel_rfl)) (SEs_cons (SE_var (i := 10) (by kernel_rfl) (by kernel_rfl) (by kernel_rfl)) (SEs_cons (SE_bin rfl (SE_attr (SE_var (i := 0) (by kernel_rfl) (by kernel_rfl) (by kernel_rfl))) (SE_len H.gnd (SE_var (i := 12) (by kernel_rfl) (by kernel_rfl) (by kernel_rfl)) (by kernel_rfl) (by kernel_rfl))) (SEs_cons (SE_attr (SE_var (i := 0) (by kernel_rfl) (by kernel_rfl) (by kernel_rfl))) SEs_nil (by kernel_rfl)) (by kernel_rfl)) (by kernel_rfl)) (by kernel_rfl)) (by kernel_rfl) (by kernel_rfl) (by kernel_rfl)) (by kernel_rfl)) (SSs_cons (SS_if (ST_cmp rfl (SE_var (i := 3) (by kernel_rfl) (by kernel_rfl) (by kernel_rfl)) SE_none (by kernel_rfl)) (SSs_cons (SS_ret SE_none) SSs_nil) SSs_nil) (SSs_cons (SS_unp H.calm (tgts_of (by kernel_rfl)) (SE_var (i := 3) (by kernel_rfl) (by kernel_rfl) (by kernel_rfl)) (by kernel_rfl) (by kernel_rfl)) (SSs_cons (SS_frozen (i := 4) (x := "later") (by kernel_rfl) (by kernel_rfl) (SS_asgMC (i := 4) (by kernel_rfl) (by kernel_rfl) (comp_of (by kernel_rfl)) (tgtL_of (by kernel_rfl)) (SI_seq H.calm (SE_var (i := 10) (by kernel_rfl) (by kernel_rfl) (by kernel_rfl))) (SE_var (i := 17) (by kernel_rfl) (by kernel_rfl) (by kernel_rfl)) (CondOk.one (ST_cmp rfl (SE_var (i := 17) (by kernel_rfl) (by kernel_rfl) (by kernel_rfl)) (SE_var (i := 14) (by kernel_rfl) (by kernel_rfl) (by kernel_rfl)) (by kernel_rfl))) (by kernel_rfl))) (SSs_cons (SS_if (ST_cmp rfl (SE_var (i := 13) (by kernel_rfl) (by kernel_rfl) (by kernel_rfl)) SE_str (by kernel_rfl)) (SSs_cons (SS_expr (SE_appT (SE_attr (SE_var (i := 0) (by kernel_rfl) (by kernel_rfl) (by kernel_rfl))) (SE_tup (SEs_cons (SE_var (i := 4) (by kernel_rfl) (by kernel_rfl) (by kernel_rfl)) (SEs_cons (SE_var (i := 11) (by kernel_rfl) (by kernel_rfl) (by kernel_rfl)) (SEs_cons (SE_var (i := 12) (by kernel_rfl) (by kernel_rfl) (by kernel_rfl)) SEs_nil (by kernel_rfl)) (by kernel_rfl)) (by kernel_rfl))) (by kernel_rfl) (methA (by kernel_rfl) (by kernel_rfl) (by kernel_rfl))) (by kernel_rfl)) (SSs_cons (SS_ret (SE_var (i := 3) (by kernel_rfl) (by kernel_rfl) (by kernel_rfl))) SSs_nil)) SSs_nil) (SSs_cons (SS_frozen (i := 5) (x := "lying") (by kernel_rfl) (by kernel_rfl) (SS_asgMC (i := 5) (by kernel_rfl) (by kernel_rfl) (comp_of (by kernel_rfl)) (tgtL_of (by kernel_rfl)) (SI_range H.calm H.gnd (SE_len H.gnd (SE_var (i := 1) (by kernel_rfl) (by kernel_rfl) (by kernel_rfl)) (by kernel_rfl) (by kernel_rfl)) (by kernel_rfl) (by kernel_rfl)) (SE_var (i := 15) (by kernel_rfl) (by kernel_rfl) (by kernel_rfl)) (CondOk.one (ST_cmp rfl (SE_idx (SE_var (i := 1) (by kernel_rfl) (by kernel_rfl) (by kernel_rfl)) (SE_var (i := 15) (by kernel_rfl) (by kernel_rfl) (by kernel_rfl)) (by kernel_rfl)) (SE_var (i := 14) (by kernel_rfl) (by kernel_rfl) (by kernel_rfl)) (by kernel_rfl))) (by kernel_rfl))) (SSs_cons (SS_asg (i := 6) (by kernel_rfl) (by kernel_rfl) (SE_min2 H.calm H.gnd (SE_attr (SE_var (i := 0) (by kernel_rfl) (by kernel_rfl) (by kernel_rfl))) (SE_idx (SE_var (i := 2) (by kernel_rfl) (by kernel_rfl) (by kernel_rfl)) (SE_var (i := 14) (by kernel_rfl) (by kernel_rfl) (by kernel_rfl)) (by kernel_rfl)) (by kernel_rfl) (by kernel_rfl) (by kernel_rfl)) (by kernel_rfl)) (SSs_cons (SS_asg (i := 7) (by kernel_rfl) (by kernel_rfl) (SE_call H.gnd H.parts_is.isFn (SEs_cons (SE_lst (SL_comp (comp_of (by kernel_rfl)) (tgtL_of (by kernel_rfl)) (SI_seq H.calm (SE_var (i := 5) (by kernel_rfl) (by kernel_rfl) (by kernel_rfl))) (SE_idx (SE_var (i := 11) (by kernel_rfl) (by kernel_rfl) (by kernel_rfl)) (SE_var (i := 15) (by kernel_rfl) (by kernel_rfl) (by kernel_rfl)) (by kernel_rfl)) CondOk.nil (by kernel_rfl))) (SEs_cons (SE_var (i := 6) (by kernel_rfl) (by kernel_rfl) (by kernel_rfl)) SEs_nil (by kernel_rfl)) (by kernel_rfl)) (by kernel_rfl) (by kernel_rfl) (by kernel_rfl)) (by kernel_rfl)) (SSs_cons (SS_asgM (i := 8) (by kernel_rfl) (by kernel_rfl) (SL_list H.gnd (SE_var (i := 11) (by kernel_rfl) (by kernel_rfl) (by kernel_rfl)) (by kernel_rfl) (by kernel_rfl)) (by kernel_rfl)) (SSs_cons (SS_asgM (i := 9) (by kernel_rfl) (by kernel_rfl) (SL_disp SEs_nil) (by kernel_rfl)) (SSs_cons (SS_for (tgt_of (by kernel_rfl)) (SI_zip H.calm H.gnd (SE_var (i := 5) (by kernel_rfl) (by kernel_rfl) (by kernel_rfl)) (SE_var (i := 7) (by kernel_rfl) (by kernel_rfl) (by kernel_rfl)) (by kernel_rfl) (by kernel_rfl) (by kernel_rfl)) (SSs_cons (SS_setI (i := 8) (by kernel_rfl) (by kernel_rfl) (by kernel_rfl) (SE_borrow (by kernel_rfl) (SE_bin rfl (SE_idx (SE_var (i := 8) (by kernel_rfl) (by kernel_rfl) (by kernel_rfl)) (SE_var (i := 15) (by kernel_rfl) (by kernel_rfl) (by kernel_rfl)) (by kernel_rfl)) (SE_var (i := 16) (by kernel_rfl) (by kernel_rfl) (by kernel_rfl)))) (SE_var (i := 15) (by kernel_rfl) (by kernel_rfl) (by kernel_rfl)) (by kernel_rfl)) (SSs_cons (SS_if (ST_cmp rfl (SE_var (i := 16) (by kernel_rfl) (by kernel_rfl) (by kernel_rfl)) SE_int (by kernel_rfl)) (SSs_cons (SS_app (i := 9) (by kernel_rfl) (by kernel_rfl) (by kernel_rfl) (SE_tup (SEs_cons (SE_var (i := 15) (by kernel_rfl) (by kernel_rfl) (by kernel_rfl)) (SEs_cons (SE_var (i := 16) (by kernel_rfl) (by kernel_rfl) (by kernel_rfl)) SEs_nil (by kernel_rfl)) (by kernel_rfl))) (by kernel_rfl) (by kernel_rfl)) SSs_nil) SSs_nil) SSs_nil)) (by kernel_rfl)) (SSs_freeze (i := 8) (x := "rest") (by kernel_rfl) (by kernel_rfl) (SSs_freeze (i := 9) (x := "bearers") (by kernel_rfl) (by kernel_rfl) (SSs_cons (SS_expr (SE_appT (SE_attr (SE_var (i := 0) (by kernel_rfl) (by kernel_rfl) (by kernel_rfl))) (SE_tup (SEs_cons (SE_var (i := 4) (by kernel_rfl) (by kernel_rfl) (by kernel_rfl)) (SEs_cons (SE_var (i := 8) (by kernel_rfl) (by kernel_rfl) (by kernel_rfl)) (SEs_cons (SE_lst (SL_cat (SE_var (i := 12) (by kernel_rfl) (by kernel_rfl) (by kernel_rfl)) (SE_lst (SL_disp (SEs_cons (SE_tup (SEs_cons (SE_var (i := 14) (by kernel_rfl) (by kernel_rfl) (by kernel_rfl)) (SEs_cons (SE_var (i := 9) (by kernel_rfl) (by kernel_rfl) (by kernel_rfl)) SEs_nil (by kernel_rfl)) (by kernel_rfl))) SEs_nil (by kernel_rfl)))))) SEs_nil (by kernel_rfl)) (by kernel_rfl)) (by kernel_rfl))) (by kernel_rfl) (methA (by kernel_rfl) (by kernel_rfl) (by kernel_rfl))) (by kernel_rfl)) (SSs_cons (SS_ret (SE_var (i := 3) (by kernel_rfl) (by kernel_rfl) (by kernel_rfl))) SSs_nil))))))))))))))))))
theorem call_Count_step {X : Cx} {c : CA} (H : Has X c) {n : Nat} {d0 : D} {σ : Sg} {Q : D → Sg → Prop} (h : mExecs X n m_Count_step [.val d0, .unb, .unb, .unb, .unb, .unb, .unb, .unb, .unb, .unb, .unb, .unb, .unb, .unb, .unb, .unb, .unb, .unb] σ (fun fl xx σ' => (∀ b, σ b ≠ none → σ' b ≠ none) ∧ Q (flD fl) σ')) :
    CallA X (n + 1) (.ref c.step) [d0] σ Q := call_at H.gnd H.Count_step_is (ScOk.of sc_Count_step) (ok_Count_step H) rfl h

theorem sc_Count_places : scOk c_Count_places n_Count_places ["self"] = true := by kernel_rfl
theorem ok_Count_places {X : Cx} {c : CA} (H : Has X c) {n : Nat} : SSs X n c_Count_places n_Count_places (fnBody (methAt P 27 4)) m_Count_places :=
  (SSs_cons (SS_asg (i := 1) (by kernel_rfl) (by kernel_rfl) (SE_idx (SE_last (SE_attr (SE_var (i := 0) (by kernel_rfl) (by kernel_rfl) (by kernel_rfl)))) SE_int (by kernel_rfl)) (by kernel_rfl)) (SSs_cons (SS_ret (SE_lst (SL_comp (comp_of (by kernel_rfl)) (tgtL_of (by kernel_rfl)) (SI_seq H.calm (SE_attr (SE_var (i := 0) (by kernel_rfl) (by kernel_rfl) (by kernel_rfl)))) (SE_call H.gnd H.place_of_is.isFn (SEs_cons (SE_var (i := 2) (by kernel_rfl) (by kernel_rfl) (by kernel_rfl)) (SEs_cons (SE_var (i := 1) (by kernel_rfl) (by kernel_rfl) (by kernel_rfl)) SEs_nil (by kernel_rfl)) (by kernel_rfl)) (by kernel_rfl) (by kernel_rfl) (by kernel_rfl)) CondOk.nil (by kernel_rfl)))) SSs_nil))
theorem call_Count_places {X : Cx} {c : CA} (H : Has X c) {n : Nat} {d0 : D} {σ : Sg} {Q : D → Sg → Prop} (h : mExecs X n m_Count_places [.val d0, .unb, .unb] σ (fun fl xx σ' => (∀ b, σ b ≠ none → σ' b ≠ none) ∧ Q (flD fl) σ')) :
    CallA X (n + 1) (.ref c.places) [d0] σ Q := call_at H.gnd H.Count_places_is (ScOk.of sc_Count_places) (ok_Count_places H) rfl h

theorem sc_Count_left : scOk c_Count_left n_Count_left ["self"] = true := by kernel_rfl
theorem ok_Count_left {X : Cx} {c : CA} (H : Has X c) {n : Nat} : SSs X n c_Count_left n_Count_left (fnBody (methAt P 27 5)) m_Count_left :=
  (SSs_cons (SS_ret (SE_lst (SL_list H.gnd (SE_idx (SE_last (SE_attr (SE_var (i := 0) (by kernel_rfl) (by kernel_rfl) (by kernel_rfl)))) SE_int (by kernel_rfl)) (by kernel_rfl) (by kernel_rfl)))) SSs_nil)
theorem call_Count_left {X : Cx} {c : CA} (H : Has X c) {n : Nat} {d0 : D} {σ : Sg} {Q : D → Sg → Prop} (h : mExecs X n m_Count_left [.val d0] σ (fun fl xx σ' => (∀ b, σ b ≠ none → σ' b ≠ none) ∧ Q (flD fl) σ')) :
    CallA X (n + 1) (.ref c.left) [d0] σ Q := call_at H.gnd H.Count_left_is (ScOk.of sc_Count_left) (ok_Count_left H) rfl h

theorem sc_Count_seats : scOk c_Count_seats n_Count_seats ["self"] = true := by kernel_rfl
theorem ok_Count_seats {X : Cx} {c : CA} (H : Has X c) {n : Nat} : SSs X n c_Count_seats n_Count_seats (fnBody (methAt P 27 6)) m_Count_seats :=
  (SSs_cons (SS_ret (SE_lst (SL_comp (comp_of (by kernel_rfl)) (tgtL_of (by kernel_rfl)) (SI_seqT H.calm (by decide) (SE_idx (SE_last (SE_attr (SE_var (i := 0) (by kernel_rfl) (by kernel_rfl) (by kernel_rfl)))) SE_int (by kernel_rfl))) (SE_tup (SEs_cons (SE_var (i := 1) (by kernel_rfl) (by kernel_rfl) (by kernel_rfl)) (SEs_cons (SE_lst (SL_list H.gnd (SE_var (i := 2) (by kernel_rfl) (by kernel_rfl) (by kernel_rfl)) (by kernel_rfl) (by kernel_rfl))) SEs_nil (by kernel_rfl)) (by kernel_rfl))) CondOk.nil (by kernel_rfl)))) SSs_nil)
theorem call_Count_seats {X : Cx} {c : CA} (H : Has X c) {n : Nat} {d0 : D} {σ : Sg} {Q : D → Sg → Prop} (h : mExecs X n m_Count_seats [.val d0, .unb, .unb] σ (fun fl xx σ' => (∀ b, σ b ≠ none → σ' b ≠ none) ∧ Q (flD fl) σ')) :
    CallA X (n + 1) (.ref c.seats) [d0] σ Q := call_at H.gnd H.Count_seats_is (ScOk.of sc_Count_seats) (ok_Count_seats H) rfl h

theorem sc_rounds_of : scOk c_rounds_of n_rounds_of ["candidates", "ballots", "seats"] = true := by kernel_rfl
theorem ok_rounds_of {X : Cx} {c : CA} (H : Has X c) {n : Nat} : SSs X n c_rounds_of n_rounds_of (fnBody (stmtAt P 29)) m_rounds_of :=
  (SSs_cons (SS_asg (i := 3) (by kernel_rfl) (by kernel_rfl) (SE_make H.gnd (SEs_cons (SE_var (i := 0) (by kernel_rfl) (by kernel_rfl) (by kernel_rfl)) (SEs_cons (SE_var (i := 1) (by kernel_rfl) (by kernel_rfl) (by kernel_rfl)) (SEs_cons (SE_var (i := 2) (by kernel_rfl) (by kernel_rfl) (by kernel_rfl)) SEs_nil (by kernel_rfl)) (by kernel_rfl)) (by kernel_rfl)) (by kernel_rfl) (by kernel_rfl) (by kernel_rfl)) (by kernel_rfl)) (SSs_cons (SS_asgM (i := 4) (by kernel_rfl) (by kernel_rfl) (SL_disp SEs_nil) (by kernel_rfl)) (SSs_cons (SS_asg (i := 5) (by kernel_rfl) (by kernel_rfl) SE_bool (by kernel_rfl)) (SSs_cons (SS_while (ST_plain (SE_var (i := 5) (by kernel_rfl) (by kernel_rfl) (by kernel_rfl)) (by kernel_rfl)) (SSs_cons (SS_asg (i := 6) (by kernel_rfl) (by kernel_rfl) (SE_meth (SE_var (i := 3) (by kernel_rfl) (by kernel_rfl) (by kernel_rfl)) (by kernel_rfl)) (by kernel_rfl)) (SSs_cons (SS_asg (i := 7) (by kernel_rfl) (by kernel_rfl) (SE_meth (SE_var (i := 3) (by kernel_rfl) (by kernel_rfl) (by kernel_rfl)) (by kernel_rfl)) (by kernel_rfl)) (SSs_cons (SS_asg (i := 8) (by kernel_rfl) (by kernel_rfl) (SE_meth (SE_var (i := 3) (by kernel_rfl) (by kernel_rfl) (by kernel_rfl)) (by kernel_rfl)) (by kernel_rfl)) (SSs_cons (SS_asg (i := 5) (by kernel_rfl) (by kernel_rfl) (SE_cmp rfl (SE_var (i := 8) (by kernel_rfl) (by kernel_rfl) (by kernel_rfl)) SE_none (by kernel_rfl)) (by kernel_rfl)) (SSs_cons (SS_if (ST_plain (SE_var (i := 5) (by kernel_rfl) (by kernel_rfl) (by kernel_rfl)) (by kernel_rfl)) (SSs_cons (SS_app (i := 4) (by kernel_rfl) (by kernel_rfl) (by kernel_rfl) (SE_tup (SEs_cons (SE_idx (SE_var (i := 8) (by kernel_rfl) (by kernel_rfl) (by kernel_rfl)) SE_int (by kernel_rfl)) (SEs_cons (SE_idx (SE_var (i := 8) (by kernel_rfl) (by kernel_rfl) (by kernel_rfl)) SE_int (by kernel_rfl)) (SEs_cons (SE_var (i := 6) (by kernel_rfl) (by kernel_rfl) (by kernel_rfl)) (SEs_cons (SE_var (i := 7) (by kernel_rfl) (by kernel_rfl) (by kernel_rfl)) SEs_nil (by kernel_rfl)) (by kernel_rfl)) (by kernel_rfl)) (by kernel_rfl))) (by kernel_rfl) (by kernel_rfl)) SSs_nil) SSs_nil) SSs_nil)))))) (SSs_freeze (i := 4) (x := "found") (by kernel_rfl) (by kernel_rfl) (SSs_cons (SS_ret (SE_var (i := 4) (by kernel_rfl) (by kernel_rfl) (by kernel_rfl))) SSs_nil))))))
theorem call_rounds_of {X : Cx} {c : CA} (H : Has X c) {n : Nat} {d0 d1 d2 : D} {σ : Sg} {Q : D → Sg → Prop} (h : mExecs X n m_rounds_of [.val d0, .val d1, .val d2, .unb, .unb, .unb, .unb, .unb, .unb] σ (fun fl xx σ' => (∀ b, σ b ≠ none → σ' b ≠ none) ∧ Q (flD fl) σ')) :
    CallSem X (n + 1) "rounds_of" [d0, d1, d2] σ Q := call_intro H.gnd (sq_rounds_of ▸ bq_rounds_of ▸ H.rounds_of_is) (ScOk.of sc_rounds_of) (ok_rounds_of H) rfl h

theorem sc_seats_of : scOk c_seats_of n_seats_of ["candidates", "ballots", "seats"] = true := by kernel_rfl
theorem ok_seats_of {X : Cx} {c : CA} (H : Has X c) {n : Nat} : SSs X n c_seats_of n_seats_of (fnBody (stmtAt P 30)) m_seats_of :=
  (SSs_cons (SS_asg (i := 3) (by kernel_rfl) (by kernel_rfl) (SE_make H.gnd (SEs_cons (SE_var (i := 0) (by kernel_rfl) (by kernel_rfl) (by kernel_rfl)) (SEs_cons (SE_var (i := 1) (by kernel_rfl) (by kernel_rfl) (by kernel_rfl)) (SEs_cons (SE_var (i := 2) (by kernel_rfl) (by kernel_rfl) (by kernel_rfl)) SEs_nil (by kernel_rfl)) (by kernel_rfl)) (by kernel_rfl)) (by kernel_rfl) (by kernel_rfl) (by kernel_rfl)) (by kernel_rfl)) (SSs_cons (SS_while (ST_cmp rfl (SE_meth (SE_var (i := 3) (by kernel_rfl) (by kernel_rfl) (by kernel_rfl)) (by kernel_rfl)) SE_none (by kernel_rfl)) (SSs_cons SS_pass SSs_nil)) (SSs_cons (SS_ret (SE_meth (SE_var (i := 3) (by kernel_rfl) (by kernel_rfl) (by kernel_rfl)) (by kernel_rfl))) SSs_nil)))
theorem call_seats_of {X : Cx} {c : CA} (H : Has X c) {n : Nat} {d0 d1 d2 : D} {σ : Sg} {Q : D → Sg → Prop} (h : mExecs X n m_seats_of [.val d0, .val d1, .val d2, .unb] σ (fun fl xx σ' => (∀ b, σ b ≠ none → σ' b ≠ none) ∧ Q (flD fl) σ')) :
    CallSem X (n + 1) "seats_of" [d0, d1, d2] σ Q := call_intro H.gnd (sq_seats_of ▸ bq_seats_of ▸ H.seats_of_is) (ScOk.of sc_seats_of) (ok_seats_of H) rfl h

theorem sc_law_cell : scOk c_law_cell n_law_cell ["_law_script", "_law_k"] = true := by kernel_rfl
theorem ok_law_cell {X : Cx} {c : CA} (H : Has X c) {n : Nat} : SSs X n c_law_cell n_law_cell (fnBody (stmtAt P 32)) m_law_cell :=
  (SSs_cons (SS_if (ST_cmp rfl (SE_var (i := 1) (by kernel_rfl) (by kernel_rfl) (by kernel_rfl)) (SE_len H.gnd (SE_var (i := 0) (by kernel_rfl) (by kernel_rfl) (by kernel_rfl)) (by kernel_rfl) (by kernel_rfl)) (by kernel_rfl)) (SSs_cons (SS_ret (SE_idx (SE_var (i := 0) (by kernel_rfl) (by kernel_rfl) (by kernel_rfl)) (SE_var (i := 1) (by kernel_rfl) (by kernel_rfl) (by kernel_rfl)) (by kernel_rfl))) SSs_nil) SSs_nil) (SSs_cons (SS_asg (i := 2) (by kernel_rfl) (by kernel_rfl) (SE_bin rfl (SE_bin rfl (SE_var (i := 1) (by kernel_rfl) (by kernel_rfl) (by kernel_rfl)) SE_int) SE_int) (by kernel_rfl)) (SSs_cons (SS_if (ST_cmp rfl (SE_len H.gnd (SE_var (i := 0) (by kernel_rfl) (by kernel_rfl) (by kernel_rfl)) (by kernel_rfl) (by kernel_rfl)) SE_int (by kernel_rfl)) (SSs_cons (SS_asg (i := 2) (by kernel_rfl) (by kernel_rfl) (SE_bin rfl (SE_bin rfl (SE_bin rfl (SE_idx (SE_var (i := 0) (by kernel_rfl) (by kernel_rfl) (by kernel_rfl)) (SE_bin rfl (SE_bin rfl (SE_var (i := 1) (by kernel_rfl) (by kernel_rfl) (by kernel_rfl)) SE_int) (SE_len H.gnd (SE_var (i := 0) (by kernel_rfl) (by kernel_rfl) (by kernel_rfl)) (by kernel_rfl) (by kernel_rfl))) (by kernel_rfl)) SE_int) (SE_bin rfl (SE_var (i := 1) (by kernel_rfl) (by kernel_rfl) (by kernel_rfl)) SE_int)) SE_int) (by kernel_rfl)) SSs_nil) SSs_nil) (SSs_cons (SS_ret (SE_bin rfl (SE_bin rfl (SE_var (i := 2) (by kernel_rfl) (by kernel_rfl) (by kernel_rfl)) (SE_var (i := 2) (by kernel_rfl) (by kernel_rfl) (by kernel_rfl))) SE_int)) SSs_nil))))
theorem call_law_cell {X : Cx} {c : CA} (H : Has X c) {n : Nat} {d0 d1 : D} {σ : Sg} {Q : D → Sg → Prop} (h : mExecs X n m_law_cell [.val d0, .val d1, .unb] σ (fun fl xx σ' => (∀ b, σ b ≠ none → σ' b ≠ none) ∧ Q (flD fl) σ')) :
    CallSem X (n + 1) "_law_cell" [d0, d1] σ Q := call_intro H.gnd (sq_law_cell ▸ bq_law_cell ▸ H.law_cell_is) (ScOk.of sc_law_cell) (ok_law_cell H) rfl h

theorem sc_law_whole : scOk c_law_whole n_law_whole ["_law_found"] = true := by kernel_rfl
theorem ok_law_whole {X : Cx} {c : CA} (H : Has X c) {n : Nat} : SSs X n c_law_whole n_law_whole (fnBody (stmtAt P 33)) m_law_whole :=
  (SSs_cons (SS_ret (SE_and (SE_isint H.gnd (SE_var (i := 0) (by kernel_rfl) (by kernel_rfl) (by kernel_rfl)) (by kernel_rfl) (by kernel_rfl) (by kernel_rfl)) (SE_one (SE_not (SE_isbool H.gnd (SE_var (i := 0) (by kernel_rfl) (by kernel_rfl) (by kernel_rfl)) (by kernel_rfl) (by kernel_rfl) (by kernel_rfl)))))) SSs_nil)
theorem call_law_whole {X : Cx} {c : CA} (H : Has X c) {n : Nat} {d0 : D} {σ : Sg} {Q : D → Sg → Prop} (h : mExecs X n m_law_whole [.val d0] σ (fun fl xx σ' => (∀ b, σ b ≠ none → σ' b ≠ none) ∧ Q (flD fl) σ')) :
    CallSem X (n + 1) "_law_whole" [d0] σ Q := call_intro H.gnd (sq_law_whole ▸ bq_law_whole ▸ H.law_whole_is) (ScOk.of sc_law_whole) (ok_law_whole H) rfl h

theorem sc_law_row : scOk c_law_row n_law_row ["_law_cell_here", "_law_candidates_here"] = true := by kernel_rfl
theorem ok_law_row {X : Cx} {c : CA} (H : Has X c) {n : Nat} : SSs X n c_law_row n_law_row (fnBody (stmtAt P 34)) m_law_row :=
  (SSs_cons (SS_asgM (i := 2) (by kernel_rfl) (by kernel_rfl) (SL_listRange H.calm H.gnd (SE_var (i := 1) (by kernel_rfl) (by kernel_rfl) (by kernel_rfl)) (by kernel_rfl) (by kernel_rfl) (by kernel_rfl)) (by kernel_rfl)) (SSs_cons (SS_asg (i := 3) (by kernel_rfl) (by kernel_rfl) (SE_bin rfl SE_int (SE_bin rfl (SE_var (i := 0) (by kernel_rfl) (by kernel_rfl) (by kernel_rfl)) SE_int)) (by kernel_rfl)) (SSs_cons (SS_asgM (i := 4) (by kernel_rfl) (by kernel_rfl) (SL_disp SEs_nil) (by kernel_rfl)) (SSs_cons (SS_for (tgt_of (by kernel_rfl)) (SI_range H.calm H.gnd (SE_bin rfl (SE_var (i := 3) (by kernel_rfl) (by kernel_rfl) (by kernel_rfl)) (SE_bin rfl (SE_var (i := 1) (by kernel_rfl) (by kernel_rfl) (by kernel_rfl)) SE_int)) (by kernel_rfl) (by kernel_rfl)) (SSs_cons (SS_asg (i := 3) (by kernel_rfl) (by kernel_rfl) (SE_bin rfl (SE_bin rfl (SE_bin rfl (SE_var (i := 3) (by kernel_rfl) (by kernel_rfl) (by kernel_rfl)) SE_int) SE_int) SE_int) (by kernel_rfl)) (SSs_cons (SS_if (ST_borrow (by kernel_rfl) (ST_cmp rfl (SE_var (i := 2) (by kernel_rfl) (by kernel_rfl) (by kernel_rfl)) (SE_lst (SL_disp SEs_nil)) (by kernel_rfl))) (SSs_cons (SS_appPop (i := 4) (j := 2) (by kernel_rfl) (by kernel_rfl) (by kernel_rfl) (by kernel_rfl) (by kernel_rfl) (by kernel_rfl) (SE_borrow (by kernel_rfl) (SE_bin rfl (SE_bin rfl (SE_var (i := 3) (by kernel_rfl) (by kernel_rfl) (by kernel_rfl)) SE_int) (SE_len H.gnd (SE_var (i := 2) (by kernel_rfl) (by kernel_rfl) (by kernel_rfl)) (by kernel_rfl) (by kernel_rfl)))) (by kernel_rfl) (by kernel_rfl) (by kernel_rfl)) SSs_nil) SSs_nil) SSs_nil)) (by kernel_rfl)) (SSs_freeze (i := 4) (x := "_law_row_here") (by kernel_rfl) (by kernel_rfl) (SSs_cons (SS_ret (SE_var (i := 4) (by kernel_rfl) (by kernel_rfl) (by kernel_rfl))) SSs_nil))))))
theorem call_law_row {X : Cx} {c : CA} (H : Has X c) {n : Nat} {d0 d1 : D} {σ : Sg} {Q : D → Sg → Prop} (h : mExecs X n m_law_row [.val d0, .val d1, .unb, .unb, .unb, .unb] σ (fun fl xx σ' => (∀ b, σ b ≠ none → σ' b ≠ none) ∧ Q (flD fl) σ')) :
    CallSem X (n + 1) "_law_row" [d0, d1] σ Q := call_intro H.gnd (sq_law_row ▸ bq_law_row ▸ H.law_row_is) (ScOk.of sc_law_row) (ok_law_row H) rfl h

theorem sc_law_weight : scOk c_law_weight n_law_weight ["_law_cell_here", "_law_kind"] = true := by kernel_rfl
theorem ok_law_weight {X : Cx} {c : CA} (H : Has X c) {n : Nat} : SSs X n c_law_weight n_law_weight (fnBody (stmtAt P 35)) m_law_weight :=
  (SSs_cons (SS_ret (SE_bin rfl SE_int (SE_bin rfl (SE_var (i := 0) (by kernel_rfl) (by kernel_rfl) (by kernel_rfl)) (SE_idx (SE_lst (SL_disp (SEs_cons SE_int (SEs_cons SE_int (SEs_cons SE_int (SEs_cons SE_int SEs_nil (by kernel_rfl)) (by kernel_rfl)) (by kernel_rfl)) (by kernel_rfl)))) (SE_var (i := 1) (by kernel_rfl) (by kernel_rfl) (by kernel_rfl)) (by kernel_rfl))))) SSs_nil)
theorem call_law_weight {X : Cx} {c : CA} (H : Has X c) {n : Nat} {d0 d1 : D} {σ : Sg} {Q : D → Sg → Prop} (h : mExecs X n m_law_weight [.val d0, .val d1] σ (fun fl xx σ' => (∀ b, σ b ≠ none → σ' b ≠ none) ∧ Q (flD fl) σ')) :
    CallSem X (n + 1) "_law_weight" [d0, d1] σ Q := call_intro H.gnd (sq_law_weight ▸ bq_law_weight ▸ H.law_weight_is) (ScOk.of sc_law_weight) (ok_law_weight H) rfl h

theorem sc_law_ballots : scOk c_law_ballots n_law_ballots ["_law_script", "_law_candidates_here"] = true := by kernel_rfl
theorem ok_law_ballots {X : Cx} {c : CA} (H : Has X c) {n : Nat} : SSs X n c_law_ballots n_law_ballots (fnBody (stmtAt P 37)) m_law_ballots :=
  (SSs_cons (SS_asg (i := 2) (by kernel_rfl) (by kernel_rfl) (SE_bin rfl (SE_call H.gnd H.law_cell_is.isFn (SEs_cons (SE_var (i := 0) (by kernel_rfl) (by kernel_rfl) (by kernel_rfl)) (SEs_cons SE_int SEs_nil (by kernel_rfl)) (by kernel_rfl)) (by kernel_rfl) (by kernel_rfl) (by kernel_rfl)) SE_int) (by kernel_rfl)) (SSs_cons (SS_if (ST_cmp rfl (SE_bin rfl (SE_bin rfl (SE_call H.gnd H.law_cell_is.isFn (SEs_cons (SE_var (i := 0) (by kernel_rfl) (by kernel_rfl) (by kernel_rfl)) (SEs_cons SE_int SEs_nil (by kernel_rfl)) (by kernel_rfl)) (by kernel_rfl) (by kernel_rfl) (by kernel_rfl)) SE_int) SE_int) SE_int (by kernel_rfl)) (SSs_cons (SS_asg (i := 2) (by kernel_rfl) (by kernel_rfl) (SE_bin rfl (SE_bin rfl (SE_call H.gnd H.law_cell_is.isFn (SEs_cons (SE_var (i := 0) (by kernel_rfl) (by kernel_rfl) (by kernel_rfl)) (SEs_cons SE_int SEs_nil (by kernel_rfl)) (by kernel_rfl)) (by kernel_rfl) (by kernel_rfl) (by kernel_rfl)) SE_int) SE_int) (by kernel_rfl)) SSs_nil) SSs_nil) (SSs_cons (SS_asg (i := 3) (by kernel_rfl) (by kernel_rfl) (SE_bin rfl (SE_call H.gnd H.law_cell_is.isFn (SEs_cons (SE_var (i := 0) (by kernel_rfl) (by kernel_rfl) (by kernel_rfl)) (SEs_cons SE_int SEs_nil (by kernel_rfl)) (by kernel_rfl)) (by kernel_rfl) (by kernel_rfl) (by kernel_rfl)) SE_int) (by kernel_rfl)) (SSs_cons (SS_asgM (i := 4) (by kernel_rfl) (by kernel_rfl) (SL_disp SEs_nil) (by kernel_rfl)) (SSs_cons (SS_for (tgt_of (by kernel_rfl)) (SI_range H.calm H.gnd (SE_var (i := 2) (by kernel_rfl) (by kernel_rfl) (by kernel_rfl)) (by kernel_rfl) (by kernel_rfl)) (SSs_cons (SS_asg (i := 6) (by kernel_rfl) (by kernel_rfl) (SE_call H.gnd H.law_weight_is.isFn (SEs_cons (SE_call H.gnd H.law_cell_is.isFn (SEs_cons (SE_var (i := 0) (by kernel_rfl) (by kernel_rfl) (by kernel_rfl)) (SEs_cons (SE_bin rfl SE_int (SE_bin rfl SE_int (SE_var (i := 5) (by kernel_rfl) (by kernel_rfl) (by kernel_rfl)))) SEs_nil (by kernel_rfl)) (by kernel_rfl)) (by kernel_rfl) (by kernel_rfl) (by kernel_rfl)) (SEs_cons (SE_var (i := 3) (by kernel_rfl) (by kernel_rfl) (by kernel_rfl)) SEs_nil (by kernel_rfl)) (by kernel_rfl)) (by kernel_rfl) (by kernel_rfl) (by kernel_rfl)) (by kernel_rfl)) (SSs_cons (SS_asg (i := 7) (by kernel_rfl) (by kernel_rfl) (SE_call H.gnd H.law_row_is.isFn (SEs_cons (SE_call H.gnd H.law_cell_is.isFn (SEs_cons (SE_var (i := 0) (by kernel_rfl) (by kernel_rfl) (by kernel_rfl)) (SEs_cons (SE_bin rfl SE_int (SE_bin rfl SE_int (SE_var (i := 5) (by kernel_rfl) (by kernel_rfl) (by kernel_rfl)))) SEs_nil (by kernel_rfl)) (by kernel_rfl)) (by kernel_rfl) (by kernel_rfl) (by kernel_rfl)) (SEs_cons (SE_var (i := 1) (by kernel_rfl) (by kernel_rfl) (by kernel_rfl)) SEs_nil (by kernel_rfl)) (by kernel_rfl)) (by kernel_rfl) (by kernel_rfl) (by kernel_rfl)) (by kernel_rfl)) (SSs_cons (SS_if (ST_borrow (by kernel_rfl) (ST_and (ST_cmp rfl (SE_bin rfl (SE_call H.gnd H.law_cell_is.isFn (SEs_cons (SE_var (i := 0) (by kernel_rfl) (by kernel_rfl) (by kernel_rfl)) (SEs_cons SE_int SEs_nil (by kernel_rfl)) (by kernel_rfl)) (by kernel_rfl) (by kernel_rfl) (by kernel_rfl)) SE_int) SE_int (by kernel_rfl)) (ST_and (ST_cmp rfl (SE_len H.gnd (SE_var (i := 4) (by kernel_rfl) (by kernel_rfl) (by kernel_rfl)) (by kernel_rfl) (by kernel_rfl)) SE_int (by kernel_rfl)) (ST_one_and (ST_cmp rfl (SE_len H.gnd (SE_var (i := 7) (by kernel_rfl) (by kernel_rfl) (by kernel_rfl)) (by kernel_rfl) (by kernel_rfl)) SE_int (by kernel_rfl)))))) (SSs_cons (SS_asgM (i := 7) (by kernel_rfl) (by kernel_rfl) (SL_borrow (by kernel_rfl) (SL_cat (SE_lst (SL_upto (SE_idx (SE_idx (SE_var (i := 4) (by kernel_rfl) (by kernel_rfl) (by kernel_rfl)) SE_int (by kernel_rfl)) SE_int (by kernel_rfl)) SE_int)) (SE_lst (SL_comp (comp_of (by kernel_rfl)) (tgtL_of (by kernel_rfl)) (SI_seq H.calm (SE_var (i := 7) (by kernel_rfl) (by kernel_rfl) (by kernel_rfl))) (SE_var (i := 8) (by kernel_rfl) (by kernel_rfl) (by kernel_rfl)) (CondOk.one (ST_cmp rfl (SE_lst (SL_disp (SEs_cons (SE_var (i := 8) (by kernel_rfl) (by kernel_rfl) (by kernel_rfl)) SEs_nil (by kernel_rfl)))) (SE_lst (SL_upto (SE_idx (SE_idx (SE_var (i := 4) (by kernel_rfl) (by kernel_rfl) (by kernel_rfl)) SE_int (by kernel_rfl)) SE_int (by kernel_rfl)) SE_int)) (by kernel_rfl))) (by kernel_rfl))))) (by kernel_rfl)) (SSs_freeze (i := 7) (x := "_law_row_here") (by kernel_rfl) (by kernel_rfl) SSs_nil)) SSs_nil) (SSs_cons (SS_app (i := 4) (by kernel_rfl) (by kernel_rfl) (by kernel_rfl) (SE_tup (SEs_cons (SE_var (i := 6) (by kernel_rfl) (by kernel_rfl) (by kernel_rfl)) (SEs_cons (SE_var (i := 7) (by kernel_rfl) (by kernel_rfl) (by kernel_rfl)) SEs_nil (by kernel_rfl)) (by kernel_rfl))) (by kernel_rfl) (by kernel_rfl)) SSs_nil)))) (by kernel_rfl)) (SSs_freeze (i := 4) (x := "_law_ballots_here") (by kernel_rfl) (by kernel_rfl) (SSs_cons (SS_ret (SE_var (i := 4) (by kernel_rfl) (by kernel_rfl) (by kernel_rfl))) SSs_nil)))))))
theorem call_law_ballots {X : Cx} {c : CA} (H : Has X c) {n : Nat} {d0 d1 : D} {σ : Sg} {Q : D → Sg → Prop} (h : mExecs X n m_law_ballots [.val d0, .val d1, .unb, .unb, .unb, .unb, .unb, .unb, .unb] σ (fun fl xx σ' => (∀ b, σ b ≠ none → σ' b ≠ none) ∧ Q (flD fl) σ')) :
    CallSem X (n + 1) "_law_ballots" [d0, d1] σ Q := call_intro H.gnd (sq_law_ballots ▸ bq_law_ballots ▸ H.law_ballots_is) (ScOk.of sc_law_ballots) (ok_law_ballots H) rfl h

theorem sc_law_strange : scOk c_law_strange n_law_strange ["_law_cell_here", "_law_low", "_law_high"] = true := by kernel_rfl
theorem ok_law_strange {X : Cx} {c : CA} (H : Has X c) {n : Nat} : SSs X n c_law_strange n_law_strange (fnBody (stmtAt P 39)) m_law_strange :=
  (SSs_cons (SS_asg (i := 3) (by kernel_rfl) (by kernel_rfl) (SE_bin rfl (SE_bin rfl (SE_bin rfl (SE_var (i := 0) (by kernel_rfl) (by kernel_rfl) (by kernel_rfl)) SE_int) SE_int) SE_int) (by kernel_rfl)) (SSs_cons (SS_ret (SE_idx (SE_lst (SL_disp (SEs_cons (SE_bin rfl (SE_var (i := 1) (by kernel_rfl) (by kernel_rfl) (by kernel_rfl)) SE_int) (SEs_cons (SE_bin rfl (SE_var (i := 2) (by kernel_rfl) (by kernel_rfl) (by kernel_rfl)) SE_int) (SEs_cons SE_bool (SEs_cons SE_bool (SEs_cons SE_str (SEs_cons SE_none (SEs_cons (SE_lst (SL_disp (SEs_cons SE_int SEs_nil (by kernel_rfl)))) (SEs_cons (SE_bin rfl (SE_bin rfl (SE_var (i := 1) (by kernel_rfl) (by kernel_rfl) (by kernel_rfl)) SE_int) (SE_var (i := 3) (by kernel_rfl) (by kernel_rfl) (by kernel_rfl))) (SEs_cons (SE_bin rfl (SE_bin rfl (SE_var (i := 2) (by kernel_rfl) (by kernel_rfl) (by kernel_rfl)) SE_int) (SE_var (i := 3) (by kernel_rfl) (by kernel_rfl) (by kernel_rfl))) SEs_nil (by kernel_rfl)) (by kernel_rfl)) (by kernel_rfl)) (by kernel_rfl)) (by kernel_rfl)) (by kernel_rfl)) (by kernel_rfl)) (by kernel_rfl)) (by kernel_rfl)))) (SE_bin rfl (SE_var (i := 0) (by kernel_rfl) (by kernel_rfl) (by kernel_rfl)) SE_int) (by kernel_rfl))) SSs_nil))
theorem call_law_strange {X : Cx} {c : CA} (H : Has X c) {n : Nat} {d0 d1 d2 : D} {σ : Sg} {Q : D → Sg → Prop} (h : mExecs X n m_law_strange [.val d0, .val d1, .val d2, .unb] σ (fun fl xx σ' => (∀ b, σ b ≠ none → σ' b ≠ none) ∧ Q (flD fl) σ')) :
    CallSem X (n + 1) "_law_strange" [d0, d1, d2] σ Q := call_intro H.gnd (sq_law_strange ▸ bq_law_strange ▸ H.law_strange_is) (ScOk.of sc_law_strange) (ok_law_strange H) rfl h

theorem sc_law_wrong : scOk c_law_wrong n_law_wrong ["_law_cell_here", "_law_candidates_here"] = true := by kernel_rfl
theorem ok_law_wrong {X : Cx} {c : CA} (H : Has X c) {n : Nat} : SSs X n c_law_wrong n_law_wrong (fnBody (stmtAt P 40)) m_law_wrong :=
  (SSs_cons (SS_asg (i := 2) (by kernel_rfl) (by kernel_rfl) (SE_call H.gnd H.law_strange_is.isFn (SEs_cons (SE_bin rfl (SE_var (i := 0) (by kernel_rfl) (by kernel_rfl) (by kernel_rfl)) SE_int) (SEs_cons SE_int (SEs_cons SE_int SEs_nil (by kernel_rfl)) (by kernel_rfl)) (by kernel_rfl)) (by kernel_rfl) (by kernel_rfl) (by kernel_rfl)) (by kernel_rfl)) (SSs_cons (SS_asg (i := 3) (by kernel_rfl) (by kernel_rfl) (SE_call H.gnd H.law_strange_is.isFn (SEs_cons (SE_bin rfl (SE_var (i := 0) (by kernel_rfl) (by kernel_rfl) (by kernel_rfl)) SE_int) (SEs_cons SE_int (SEs_cons (SE_bin rfl (SE_var (i := 1) (by kernel_rfl) (by kernel_rfl) (by kernel_rfl)) SE_int) SEs_nil (by kernel_rfl)) (by kernel_rfl)) (by kernel_rfl)) (by kernel_rfl) (by kernel_rfl) (by kernel_rfl)) (by kernel_rfl)) (SSs_cons (SS_asg (i := 4) (by kernel_rfl) (by kernel_rfl) (SE_call H.gnd H.law_row_is.isFn (SEs_cons (SE_bin rfl (SE_var (i := 0) (by kernel_rfl) (by kernel_rfl) (by kernel_rfl)) SE_int) (SEs_cons (SE_var (i := 1) (by kernel_rfl) (by kernel_rfl) (by kernel_rfl)) SEs_nil (by kernel_rfl)) (by kernel_rfl)) (by kernel_rfl) (by kernel_rfl) (by kernel_rfl)) (by kernel_rfl)) (SSs_cons (SS_asg (i := 5) (by kernel_rfl) (by kernel_rfl) (SE_bin rfl (SE_bin rfl (SE_var (i := 0) (by kernel_rfl) (by kernel_rfl) (by kernel_rfl)) SE_int) (SE_bin rfl (SE_len H.gnd (SE_var (i := 4) (by kernel_rfl) (by kernel_rfl) (by kernel_rfl)) (by kernel_rfl) (by kernel_rfl)) SE_int)) (by kernel_rfl)) (SSs_cons (SS_if (ST_cmp rfl (SE_bin rfl (SE_var (i := 0) (by kernel_rfl) (by kernel_rfl) (by kernel_rfl)) SE_int) SE_int (by kernel_rfl)) (SSs_cons (SS_ret (SE_lst (SL_disp (SEs_cons SE_int (SEs_cons (SE_var (i := 4) (by kernel_rfl) (by kernel_rfl) (by kernel_rfl)) SEs_nil (by kernel_rfl)) (by kernel_rfl))))) SSs_nil) SSs_nil) (SSs_cons (SS_if (ST_cmp rfl (SE_bin rfl (SE_var (i := 0) (by kernel_rfl) (by kernel_rfl) (by kernel_rfl)) SE_int) SE_int (by kernel_rfl)) (SSs_cons (SS_ret (SE_tup (SEs_cons SE_int (SEs_cons (SE_var (i := 4) (by kernel_rfl) (by kernel_rfl) (by kernel_rfl)) (SEs_cons SE_int SEs_nil (by kernel_rfl)) (by kernel_rfl)) (by kernel_rfl)))) SSs_nil) SSs_nil) (SSs_cons (SS_if (ST_cmp rfl (SE_bin rfl (SE_var (i := 0) (by kernel_rfl) (by kernel_rfl) (by kernel_rfl)) SE_int) SE_int (by kernel_rfl)) (SSs_cons (SS_ret (SE_tup (SEs_cons (SE_var (i := 2) (by kernel_rfl) (by kernel_rfl) (by kernel_rfl)) (SEs_cons (SE_var (i := 4) (by kernel_rfl) (by kernel_rfl) (by kernel_rfl)) SEs_nil (by kernel_rfl)) (by kernel_rfl)))) SSs_nil) SSs_nil) (SSs_cons (SS_if (ST_cmp rfl (SE_bin rfl (SE_var (i := 0) (by kernel_rfl) (by kernel_rfl) (by kernel_rfl)) SE_int) SE_int (by kernel_rfl)) (SSs_cons (SS_ret (SE_tup (SEs_cons SE_int (SEs_cons (SE_lst (SL_cat (SE_lst (SL_cat (SE_lst (SL_upto (SE_var (i := 4) (by kernel_rfl) (by kernel_rfl) (by kernel_rfl)) (SE_var (i := 5) (by kernel_rfl) (by kernel_rfl) (by kernel_rfl)))) (SE_lst (SL_disp (SEs_cons (SE_var (i := 3) (by kernel_rfl) (by kernel_rfl) (by kernel_rfl)) SEs_nil (by kernel_rfl)))))) (SE_lst (SL_from (SE_var (i := 4) (by kernel_rfl) (by kernel_rfl) (by kernel_rfl)) (SE_var (i := 5) (by kernel_rfl) (by kernel_rfl) (by kernel_rfl)))))) SEs_nil (by kernel_rfl)) (by kernel_rfl)))) SSs_nil) SSs_nil) (SSs_cons (SS_if (ST_cmp rfl (SE_bin rfl (SE_var (i := 0) (by kernel_rfl) (by kernel_rfl) (by kernel_rfl)) SE_int) SE_int (by kernel_rfl)) (SSs_cons (SS_ret (SE_tup (SEs_cons SE_int (SEs_cons (SE_tuple1 H.gnd (SE_var (i := 4) (by kernel_rfl) (by kernel_rfl) (by kernel_rfl)) (by kernel_rfl) (by kernel_rfl)) SEs_nil (by kernel_rfl)) (by kernel_rfl)))) SSs_nil) SSs_nil) (SSs_cons (SS_if (ST_and (ST_cmp rfl (SE_bin rfl (SE_var (i := 0) (by kernel_rfl) (by kernel_rfl) (by kernel_rfl)) SE_int) SE_int (by kernel_rfl)) (ST_one_and (ST_cmp rfl (SE_var (i := 4) (by kernel_rfl) (by kernel_rfl) (by kernel_rfl)) (SE_lst (SL_disp SEs_nil)) (by kernel_rfl)))) (SSs_cons (SS_asg (i := 6) (by kernel_rfl) (by kernel_rfl) (SE_idx (SE_var (i := 4) (by kernel_rfl) (by kernel_rfl) (by kernel_rfl)) (SE_bin rfl (SE_bin rfl (SE_var (i := 0) (by kernel_rfl) (by kernel_rfl) (by kernel_rfl)) SE_int) (SE_len H.gnd (SE_var (i := 4) (by kernel_rfl) (by kernel_rfl) (by kernel_rfl)) (by kernel_rfl) (by kernel_rfl))) (by kernel_rfl)) (by kernel_rfl)) (SSs_cons (SS_ret (SE_tup (SEs_cons SE_int (SEs_cons (SE_lst (SL_cat (SE_lst (SL_cat (SE_lst (SL_upto (SE_var (i := 4) (by kernel_rfl) (by kernel_rfl) (by kernel_rfl)) (SE_var (i := 5) (by kernel_rfl) (by kernel_rfl) (by kernel_rfl)))) (SE_lst (SL_disp (SEs_cons (SE_var (i := 6) (by kernel_rfl) (by kernel_rfl) (by kernel_rfl)) SEs_nil (by kernel_rfl)))))) (SE_lst (SL_from (SE_var (i := 4) (by kernel_rfl) (by kernel_rfl) (by kernel_rfl)) (SE_var (i := 5) (by kernel_rfl) (by kernel_rfl) (by kernel_rfl)))))) SEs_nil (by kernel_rfl)) (by kernel_rfl)))) SSs_nil)) SSs_nil) (SSs_cons (SS_ret (SE_idx (SE_lst (SL_disp (SEs_cons SE_none (SEs_cons SE_int (SEs_cons SE_str (SEs_cons (SE_tup (SEs_cons SE_int SEs_nil (by kernel_rfl))) (SEs_cons (SE_tup SEs_nil) SEs_nil (by kernel_rfl)) (by kernel_rfl)) (by kernel_rfl)) (by kernel_rfl)) (by kernel_rfl)))) (SE_bin rfl (SE_bin rfl (SE_var (i := 0) (by kernel_rfl) (by kernel_rfl) (by kernel_rfl)) SE_int) SE_int) (by kernel_rfl))) SSs_nil)))))))))))
theorem call_law_wrong {X : Cx} {c : CA} (H : Has X c) {n : Nat} {d0 d1 : D} {σ : Sg} {Q : D → Sg → Prop} (h : mExecs X n m_law_wrong [.val d0, .val d1, .unb, .unb, .unb, .unb, .unb] σ (fun fl xx σ' => (∀ b, σ b ≠ none → σ' b ≠ none) ∧ Q (flD fl) σ')) :
    CallSem X (n + 1) "_law_wrong" [d0, d1] σ Q := call_intro H.gnd (sq_law_wrong ▸ bq_law_wrong ▸ H.law_wrong_is) (ScOk.of sc_law_wrong) (ok_law_wrong H) rfl h

theorem sc_law_is : scOk c_law_is n_law_is ["_law_thing", "_law_low", "_law_high"] = true := by kernel_rfl
theorem ok_law_is {X : Cx} {c : CA} (H : Has X c) {n : Nat} : SSs X n c_law_is n_law_is (fnBody (stmtAt P 41)) m_law_is :=
  (SSs_cons (SS_ret (SE_and (SE_call H.gnd H.law_whole_is.isFn (SEs_cons (SE_var (i := 0) (by kernel_rfl) (by kernel_rfl) (by kernel_rfl)) SEs_nil (by kernel_rfl)) (by kernel_rfl) (by kernel_rfl) (by kernel_rfl)) (SE_and (SE_cmp rfl (SE_var (i := 1) (by kernel_rfl) (by kernel_rfl) (by kernel_rfl)) (SE_var (i := 0) (by kernel_rfl) (by kernel_rfl) (by kernel_rfl)) (by kernel_rfl)) (SE_one (SE_cmp rfl (SE_var (i := 0) (by kernel_rfl) (by kernel_rfl) (by kernel_rfl)) (SE_var (i := 2) (by kernel_rfl) (by kernel_rfl) (by kernel_rfl)) (by kernel_rfl)))))) SSs_nil)
theorem call_law_is {X : Cx} {c : CA} (H : Has X c) {n : Nat} {d0 d1 d2 : D} {σ : Sg} {Q : D → Sg → Prop} (h : mExecs X n m_law_is [.val d0, .val d1, .val d2] σ (fun fl xx σ' => (∀ b, σ b ≠ none → σ' b ≠ none) ∧ Q (flD fl) σ')) :
    CallSem X (n + 1) "_law_is" [d0, d1, d2] σ Q := call_intro H.gnd (sq_law_is ▸ bq_law_is ▸ H.law_is_is) (ScOk.of sc_law_is) (ok_law_is H) rfl h

theorem sc_law_good : scOk c_law_good n_law_good ["_law_ballot", "_law_candidates_here"] = true := by kernel_rfl
theorem ok_law_good {X : Cx} {c : CA} (H : Has X c) {n : Nat} : SSs X n c_law_good n_law_good (fnBody (stmtAt P 42)) m_law_good :=
  (SSs_cons (SS_if (ST_or (ST_not (ST_plain (SE_istuple H.gnd (SE_var (i := 0) (by kernel_rfl) (by kernel_rfl) (by kernel_rfl)) (by kernel_rfl) (by kernel_rfl) (by kernel_rfl)) (by kernel_rfl))) (ST_one_or (ST_cmp rfl (SE_len H.gnd (SE_var (i := 0) (by kernel_rfl) (by kernel_rfl) (by kernel_rfl)) (by kernel_rfl) (by kernel_rfl)) SE_int (by kernel_rfl)))) (SSs_cons (SS_ret SE_bool) SSs_nil) SSs_nil) (SSs_cons (SS_if (ST_or (ST_not (ST_plain (SE_call H.gnd H.law_is_is.isFn (SEs_cons (SE_idx (SE_var (i := 0) (by kernel_rfl) (by kernel_rfl) (by kernel_rfl)) SE_int (by kernel_rfl)) (SEs_cons SE_int (SEs_cons SE_int SEs_nil (by kernel_rfl)) (by kernel_rfl)) (by kernel_rfl)) (by kernel_rfl) (by kernel_rfl) (by kernel_rfl)) (by kernel_rfl))) (ST_one_or (ST_not (ST_plain (SE_islist H.gnd (SE_idx (SE_var (i := 0) (by kernel_rfl) (by kernel_rfl) (by kernel_rfl)) SE_int (by kernel_rfl)) (by kernel_rfl) (by kernel_rfl) (by kernel_rfl)) (by kernel_rfl))))) (SSs_cons (SS_ret SE_bool) SSs_nil) SSs_nil) (SSs_cons (SS_if (ST_cmp rfl (SE_lst (SL_comp (comp_of (by kernel_rfl)) (tgtL_of (by kernel_rfl)) (SI_seq H.calm (SE_idx (SE_var (i := 0) (by kernel_rfl) (by kernel_rfl) (by kernel_rfl)) SE_int (by kernel_rfl))) (SE_var (i := 2) (by kernel_rfl) (by kernel_rfl) (by kernel_rfl)) (CondOk.one (ST_not (ST_plain (SE_call H.gnd H.law_is_is.isFn (SEs_cons (SE_var (i := 2) (by kernel_rfl) (by kernel_rfl) (by kernel_rfl)) (SEs_cons SE_int (SEs_cons (SE_bin rfl (SE_var (i := 1) (by kernel_rfl) (by kernel_rfl) (by kernel_rfl)) SE_int) SEs_nil (by kernel_rfl)) (by kernel_rfl)) (by kernel_rfl)) (by kernel_rfl) (by kernel_rfl) (by kernel_rfl)) (by kernel_rfl)))) (by kernel_rfl))) (SE_lst (SL_disp SEs_nil)) (by kernel_rfl)) (SSs_cons (SS_ret SE_bool) SSs_nil) SSs_nil) (SSs_cons (SS_ret (SE_cmp rfl (SE_lst (SL_comp (comp_of (by kernel_rfl)) (tgtL_of (by kernel_rfl)) (SI_seq H.calm (SE_idx (SE_var (i := 0) (by kernel_rfl) (by kernel_rfl) (by kernel_rfl)) SE_int (by kernel_rfl))) (SE_var (i := 2) (by kernel_rfl) (by kernel_rfl) (by kernel_rfl)) (CondOk.one (ST_cmp rfl (SE_countI (SE_idx (SE_var (i := 0) (by kernel_rfl) (by kernel_rfl) (by kernel_rfl)) SE_int (by kernel_rfl)) (SE_var (i := 2) (by kernel_rfl) (by kernel_rfl) (by kernel_rfl)) (by kernel_rfl) (methS (by kernel_rfl) (by kernel_rfl) (by kernel_rfl))) SE_int (by kernel_rfl))) (by kernel_rfl))) (SE_lst (SL_disp SEs_nil)) (by kernel_rfl))) SSs_nil))))
theorem call_law_good {X : Cx} {c : CA} (H : Has X c) {n : Nat} {d0 d1 : D} {σ : Sg} {Q : D → Sg → Prop} (h : mExecs X n m_law_good [.val d0, .val d1, .unb] σ (fun fl xx σ' => (∀ b, σ b ≠ none → σ' b ≠ none) ∧ Q (flD fl) σ')) :
    CallSem X (n + 1) "_law_good" [d0, d1] σ Q := call_intro H.gnd (sq_law_good ▸ bq_law_good ▸ H.law_good_is) (ScOk.of sc_law_good) (ok_law_good H) rfl h

theorem sc_law_due : scOk c_law_due n_law_due ["_law_candidates_here", "_law_ballots_here", "_law_seats"] = true := by kernel_rfl
theorem ok_law_due {X : Cx} {c : CA} (H : Has X c) {n : Nat} : SSs X n c_law_due n_law_due (fnBody (stmtAt P 43)) m_law_due :=
  (SSs_cons (SS_if (ST_not (ST_plain (SE_call H.gnd H.law_is_is.isFn (SEs_cons (SE_var (i := 0) (by kernel_rfl) (by kernel_rfl) (by kernel_rfl)) (SEs_cons SE_int (SEs_cons SE_int SEs_nil (by kernel_rfl)) (by kernel_rfl)) (by kernel_rfl)) (by kernel_rfl) (by kernel_rfl) (by kernel_rfl)) (by kernel_rfl))) (SSs_cons (SS_ret SE_str) SSs_nil) SSs_nil) (SSs_cons (SS_if (ST_not (ST_plain (SE_call H.gnd H.law_is_is.isFn (SEs_cons (SE_var (i := 2) (by kernel_rfl) (by kernel_rfl) (by kernel_rfl)) (SEs_cons SE_int (SEs_cons (SE_var (i := 0) (by kernel_rfl) (by kernel_rfl) (by kernel_rfl)) SEs_nil (by kernel_rfl)) (by kernel_rfl)) (by kernel_rfl)) (by kernel_rfl) (by kernel_rfl) (by kernel_rfl)) (by kernel_rfl))) (SSs_cons (SS_ret SE_str) SSs_nil) SSs_nil) (SSs_cons (SS_if (ST_cmp rfl (SE_len H.gnd (SE_var (i := 1) (by kernel_rfl) (by kernel_rfl) (by kernel_rfl)) (by kernel_rfl) (by kernel_rfl)) SE_int (by kernel_rfl)) (SSs_cons (SS_ret SE_str) SSs_nil) SSs_nil) (SSs_cons (SS_if (ST_cmp rfl (SE_lst (SL_comp (comp_of (by kernel_rfl)) (tgtL_of (by kernel_rfl)) (SI_seq H.calm (SE_var (i := 1) (by kernel_rfl) (by kernel_rfl) (by kernel_rfl))) (SE_var (i := 3) (by kernel_rfl) (by kernel_rfl) (by kernel_rfl)) (CondOk.one (ST_not (ST_plain (SE_call H.gnd H.law_good_is.isFn (SEs_cons (SE_var (i := 3) (by kernel_rfl) (by kernel_rfl) (by kernel_rfl)) (SEs_cons (SE_var (i := 0) (by kernel_rfl) (by kernel_rfl) (by kernel_rfl)) SEs_nil (by kernel_rfl)) (by kernel_rfl)) (by kernel_rfl) (by kernel_rfl) (by kernel_rfl)) (by kernel_rfl)))) (by kernel_rfl))) (SE_lst (SL_disp SEs_nil)) (by kernel_rfl)) (SSs_cons (SS_ret SE_str) SSs_nil) SSs_nil) (SSs_cons (SS_ret SE_str) SSs_nil)))))
theorem call_law_due {X : Cx} {c : CA} (H : Has X c) {n : Nat} {d0 d1 d2 : D} {σ : Sg} {Q : D → Sg → Prop} (h : mExecs X n m_law_due [.val d0, .val d1, .val d2, .unb] σ (fun fl xx σ' => (∀ b, σ b ≠ none → σ' b ≠ none) ∧ Q (flD fl) σ')) :
    CallSem X (n + 1) "_law_due" [d0, d1, d2] σ Q := call_intro H.gnd (sq_law_due ▸ bq_law_due ▸ H.law_due_is) (ScOk.of sc_law_due) (ok_law_due H) rfl h

theorem sc_law_word : scOk c_law_word n_law_word ["_law_error"] = true := by kernel_rfl
theorem ok_law_word {X : Cx} (G : Gnd X) {n : Nat} : SSs X n c_law_word n_law_word (fnBody (stmtAt P 44)) m_law_word :=
  (SSs_cons (SS_asgM (i := 1) (by kernel_rfl) (by kernel_rfl) (SL_disp SEs_nil) (by kernel_rfl)) (SSs_cons (SS_if (ST_plain (SE_isA G (SE_var (i := 0) (by kernel_rfl) (by kernel_rfl) (by kernel_rfl)) (by kernel_rfl) (by kernel_rfl) (by kernel_rfl) (by kernel_rfl)) (by kernel_rfl)) (SSs_cons (SS_app (i := 1) (by kernel_rfl) (by kernel_rfl) (by kernel_rfl) SE_str (by kernel_rfl) (by kernel_rfl)) SSs_nil) SSs_nil) (SSs_cons (SS_if (ST_plain (SE_isA G (SE_var (i := 0) (by kernel_rfl) (by kernel_rfl) (by kernel_rfl)) (by kernel_rfl) (by kernel_rfl) (by kernel_rfl) (by kernel_rfl)) (by kernel_rfl)) (SSs_cons (SS_app (i := 1) (by kernel_rfl) (by kernel_rfl) (by kernel_rfl) SE_str (by kernel_rfl) (by kernel_rfl)) SSs_nil) SSs_nil) (SSs_cons (SS_if (ST_plain (SE_isA G (SE_var (i := 0) (by kernel_rfl) (by kernel_rfl) (by kernel_rfl)) (by kernel_rfl) (by kernel_rfl) (by kernel_rfl) (by kernel_rfl)) (by kernel_rfl)) (SSs_cons (SS_app (i := 1) (by kernel_rfl) (by kernel_rfl) (by kernel_rfl) SE_str (by kernel_rfl) (by kernel_rfl)) SSs_nil) SSs_nil) (SSs_cons (SS_if (ST_plain (SE_isA G (SE_var (i := 0) (by kernel_rfl) (by kernel_rfl) (by kernel_rfl)) (by kernel_rfl) (by kernel_rfl) (by kernel_rfl) (by kernel_rfl)) (by kernel_rfl)) (SSs_cons (SS_app (i := 1) (by kernel_rfl) (by kernel_rfl) (by kernel_rfl) SE_str (by kernel_rfl) (by kernel_rfl)) SSs_nil) SSs_nil) (SSs_cons (SS_if (ST_or (ST_cmp rfl (SE_lenM (i := 1) G (by kernel_rfl) (by kernel_rfl) (by kernel_rfl) (by kernel_rfl)) SE_int (by kernel_rfl)) (ST_one_or (ST_not (ST_plain (SE_isV G (SE_var (i := 0) (by kernel_rfl) (by kernel_rfl) (by kernel_rfl)) (by kernel_rfl) (by kernel_rfl) (by kernel_rfl)) (by kernel_rfl))))) (SSs_cons (SS_ret SE_str) SSs_nil) SSs_nil) (SSs_cons (SS_ret (SE_borrow (by kernel_rfl) (SE_idx (SE_var (i := 1) (by kernel_rfl) (by kernel_rfl) (by kernel_rfl)) SE_int (by kernel_rfl)))) SSs_nil)))))))
theorem call_law_word {X : Cx} (G : Gnd X) (hf : FnIs X "_law_word" (recOf P "_law_word").scope ["_law_error"] (recOf P "_law_word").body) {n : Nat} {d0 : D} {σ : Sg} {Q : D → Sg → Prop} (h : mExecs X n m_law_word [.val d0, .unb] σ (fun fl xx σ' => (∀ b, σ b ≠ none → σ' b ≠ none) ∧ Q (flD fl) σ')) :
    CallSem X (n + 1) "_law_word" [d0] σ Q := call_intro G (sq_law_word ▸ bq_law_word ▸ hf) (ScOk.of sc_law_word) (ok_law_word G) rfl h

theorem sc_law_told : scOk c_law_told n_law_told ["_law_which", "_law_candidates_here", "_law_ballots_here", "_law_seats"] = true := by kernel_rfl
theorem ok_law_told {X : Cx} {c : CA} (H : Has X c) {n : Nat} : SSs X n c_law_told n_law_told (fnBody (stmtAt P 45)) m_law_told :=
  (SSs_cons (SS_try (SSs_cons (SS_if (ST_cmp rfl (SE_var (i := 0) (by kernel_rfl) (by kernel_rfl) (by kernel_rfl)) SE_int (by kernel_rfl)) (SSs_cons (SS_expr (SE_make H.gnd (SEs_cons (SE_var (i := 1) (by kernel_rfl) (by kernel_rfl) (by kernel_rfl)) (SEs_cons (SE_var (i := 2) (by kernel_rfl) (by kernel_rfl) (by kernel_rfl)) (SEs_cons (SE_var (i := 3) (by kernel_rfl) (by kernel_rfl) (by kernel_rfl)) SEs_nil (by kernel_rfl)) (by kernel_rfl)) (by kernel_rfl)) (by kernel_rfl) (by kernel_rfl) (by kernel_rfl)) (by kernel_rfl)) SSs_nil) (SSs_cons (SS_if (ST_cmp rfl (SE_var (i := 0) (by kernel_rfl) (by kernel_rfl) (by kernel_rfl)) SE_int (by kernel_rfl)) (SSs_cons (SS_expr (SE_call H.gnd H.rounds_of_is.isFn (SEs_cons (SE_var (i := 1) (by kernel_rfl) (by kernel_rfl) (by kernel_rfl)) (SEs_cons (SE_var (i := 2) (by kernel_rfl) (by kernel_rfl) (by kernel_rfl)) (SEs_cons (SE_var (i := 3) (by kernel_rfl) (by kernel_rfl) (by kernel_rfl)) SEs_nil (by kernel_rfl)) (by kernel_rfl)) (by kernel_rfl)) (by kernel_rfl) (by kernel_rfl) (by kernel_rfl)) (by kernel_rfl)) SSs_nil) (SSs_cons (SS_expr (SE_call H.gnd H.seats_of_is.isFn (SEs_cons (SE_var (i := 1) (by kernel_rfl) (by kernel_rfl) (by kernel_rfl)) (SEs_cons (SE_var (i := 2) (by kernel_rfl) (by kernel_rfl) (by kernel_rfl)) (SEs_cons (SE_var (i := 3) (by kernel_rfl) (by kernel_rfl) (by kernel_rfl)) SEs_nil (by kernel_rfl)) (by kernel_rfl)) (by kernel_rfl)) (by kernel_rfl) (by kernel_rfl) (by kernel_rfl)) (by kernel_rfl)) SSs_nil)) SSs_nil)) SSs_nil)) (SSs_cons (SS_ret SE_str) SSs_nil))
theorem call_law_told {X : Cx} {c : CA} (H : Has X c) {n : Nat} {d0 d1 d2 d3 : D} {σ : Sg} {Q : D → Sg → Prop} (h : mExecs X n m_law_told [.val d0, .val d1, .val d2, .val d3, .unb] σ (fun fl xx σ' => (∀ b, σ b ≠ none → σ' b ≠ none) ∧ Q (flD fl) σ')) :
    CallSem X (n + 1) "_law_told" [d0, d1, d2, d3] σ Q := call_intro H.gnd (sq_law_told ▸ bq_law_told ▸ H.law_told_is) (ScOk.of sc_law_told) (ok_law_told H) rfl h

theorem sc_law : scOk c_law n_law ["_law_script"] = true := by kernel_rfl
theorem ok_law {X : Cx} {c : CA} (H : Has X c) {n : Nat} : SSsf X n c_law n_law (fnBody (stmtAt P 46)) m_law :=
  (SSsf_cons (SSf.of (SS_asg (i := 1) (by kernel_rfl) (by kernel_rfl) (SE_bin rfl SE_int (SE_bin rfl (SE_call H.gnd H.law_cell_is.isFn (SEs_cons (SE_var (i := 0) (by kernel_rfl) (by kernel_rfl) (by kernel_rfl)) (SEs_cons SE_int SEs_nil (by kernel_rfl)) (by kernel_rfl)) (by kernel_rfl) (by kernel_rfl) (by kernel_rfl)) SE_int)) (by kernel_rfl))) (SSsf_cons (SSf.of (SS_asgM (i := 2) (by kernel_rfl) (by kernel_rfl) (SL_upto (SE_call H.gnd H.law_ballots_is.isFn (SEs_cons (SE_var (i := 0) (by kernel_rfl) (by kernel_rfl) (by kernel_rfl)) (SEs_cons (SE_var (i := 1) (by kernel_rfl) (by kernel_rfl) (by kernel_rfl)) SEs_nil (by kernel_rfl)) (by kernel_rfl)) (by kernel_rfl) (by kernel_rfl) (by kernel_rfl)) SE_int) (by kernel_rfl))) (SSsf_cons (SSf.of (SS_asg (i := 3) (by kernel_rfl) (by kernel_rfl) (SE_bin rfl SE_int (SE_bin rfl (SE_call H.gnd H.law_cell_is.isFn (SEs_cons (SE_var (i := 0) (by kernel_rfl) (by kernel_rfl) (by kernel_rfl)) (SEs_cons SE_int SEs_nil (by kernel_rfl)) (by kernel_rfl)) (by kernel_rfl) (by kernel_rfl) (by kernel_rfl)) (SE_var (i := 1) (by kernel_rfl) (by kernel_rfl) (by kernel_rfl)))) (by kernel_rfl))) (SSsf_cons (SSf.of (SS_asg (i := 4) (by kernel_rfl) (by kernel_rfl) (SE_call H.gnd H.law_cell_is.isFn (SEs_cons (SE_var (i := 0) (by kernel_rfl) (by kernel_rfl) (by kernel_rfl)) (SEs_cons SE_int SEs_nil (by kernel_rfl)) (by kernel_rfl)) (by kernel_rfl) (by kernel_rfl) (by kernel_rfl)) (by kernel_rfl))) (SSsf_cons (SSf.of (SS_if (ST_cmp rfl (SE_bin rfl (SE_call H.gnd H.law_cell_is.isFn (SEs_cons (SE_var (i := 0) (by kernel_rfl) (by kernel_rfl) (by kernel_rfl)) (SEs_cons SE_int SEs_nil (by kernel_rfl)) (by kernel_rfl)) (by kernel_rfl) (by kernel_rfl) (by kernel_rfl)) SE_int) SE_int (by kernel_rfl)) (SSs_cons (SS_app (i := 2) (by kernel_rfl) (by kernel_rfl) (by kernel_rfl) (SE_tup (SEs_cons SE_int (SEs_cons (SE_call H.gnd H.law_row_is.isFn (SEs_cons (SE_bin rfl (SE_call H.gnd H.law_cell_is.isFn (SEs_cons (SE_var (i := 0) (by kernel_rfl) (by kernel_rfl) (by kernel_rfl)) (SEs_cons SE_int SEs_nil (by kernel_rfl)) (by kernel_rfl)) (by kernel_rfl) (by kernel_rfl) (by kernel_rfl)) SE_int) (SEs_cons (SE_var (i := 1) (by kernel_rfl) (by kernel_rfl) (by kernel_rfl)) SEs_nil (by kernel_rfl)) (by kernel_rfl)) (by kernel_rfl) (by kernel_rfl) (by kernel_rfl)) SEs_nil (by kernel_rfl)) (by kernel_rfl))) (by kernel_rfl) (by kernel_rfl)) SSs_nil) SSs_nil)) (SSsf_cons (SSf.of (SS_if (ST_cmp rfl (SE_bin rfl (SE_var (i := 4) (by kernel_rfl) (by kernel_rfl) (by kernel_rfl)) SE_int) SE_int (by kernel_rfl)) (SSs_cons (SS_ins (i := 2) (by kernel_rfl) (by kernel_rfl) (by kernel_rfl) (SE_bin rfl (SE_bin rfl (SE_var (i := 4) (by kernel_rfl) (by kernel_rfl) (by kernel_rfl)) SE_int) (SE_bin rfl (SE_lenM (i := 2) H.gnd (by kernel_rfl) (by kernel_rfl) (by kernel_rfl) (by kernel_rfl)) SE_int)) (SE_call H.gnd H.law_wrong_is.isFn (SEs_cons (SE_call H.gnd H.law_cell_is.isFn (SEs_cons (SE_var (i := 0) (by kernel_rfl) (by kernel_rfl) (by kernel_rfl)) (SEs_cons SE_int SEs_nil (by kernel_rfl)) (by kernel_rfl)) (by kernel_rfl) (by kernel_rfl) (by kernel_rfl)) (SEs_cons (SE_var (i := 1) (by kernel_rfl) (by kernel_rfl) (by kernel_rfl)) SEs_nil (by kernel_rfl)) (by kernel_rfl)) (by kernel_rfl) (by kernel_rfl) (by kernel_rfl)) (by kernel_rfl) (by kernel_rfl) (by kernel_rfl)) SSs_nil) SSs_nil)) (SSsf_freeze (i := 2) (x := "_law_ballots_here") (by kernel_rfl) (by kernel_rfl) (SSsf_cons (SSf.of (SS_if (ST_cmp rfl (SE_bin rfl (SE_call H.gnd H.law_cell_is.isFn (SEs_cons (SE_var (i := 0) (by kernel_rfl) (by kernel_rfl) (by kernel_rfl)) (SEs_cons SE_int SEs_nil (by kernel_rfl)) (by kernel_rfl)) (by kernel_rfl) (by kernel_rfl) (by kernel_rfl)) SE_int) SE_int (by kernel_rfl)) (SSs_cons (SS_asg (i := 2) (by kernel_rfl) (by kernel_rfl) (SE_lst (SL_cat (SE_var (i := 2) (by kernel_rfl) (by kernel_rfl) (by kernel_rfl)) (SE_lst (SL_rep (SE_tup (SEs_cons SE_int (SEs_cons (SE_lst (SL_disp SEs_nil)) SEs_nil (by kernel_rfl)) (by kernel_rfl))) (SE_bin rfl (SE_bin rfl SE_int (SE_len H.gnd (SE_var (i := 2) (by kernel_rfl) (by kernel_rfl) (by kernel_rfl)) (by kernel_rfl) (by kernel_rfl))) (SE_bin rfl (SE_bin rfl (SE_call H.gnd H.law_cell_is.isFn (SEs_cons (SE_var (i := 0) (by kernel_rfl) (by kernel_rfl) (by kernel_rfl)) (SEs_cons SE_int SEs_nil (by kernel_rfl)) (by kernel_rfl)) (by kernel_rfl) (by kernel_rfl) (by kernel_rfl)) SE_int) SE_int)) (by kernel_rfl))))) (by kernel_rfl)) SSs_nil) SSs_nil)) (SSsf_cons (SSf.of (SS_if (ST_cmp rfl (SE_bin rfl (SE_call H.gnd H.law_cell_is.isFn (SEs_cons (SE_var (i := 0) (by kernel_rfl) (by kernel_rfl) (by kernel_rfl)) (SEs_cons SE_int SEs_nil (by kernel_rfl)) (by kernel_rfl)) (by kernel_rfl) (by kernel_rfl) (by kernel_rfl)) SE_int) SE_int (by kernel_rfl)) (SSs_cons (SS_asg (i := 3) (by kernel_rfl) (by kernel_rfl) (SE_call H.gnd H.law_strange_is.isFn (SEs_cons (SE_call H.gnd H.law_cell_is.isFn (SEs_cons (SE_var (i := 0) (by kernel_rfl) (by kernel_rfl) (by kernel_rfl)) (SEs_cons SE_int SEs_nil (by kernel_rfl)) (by kernel_rfl)) (by kernel_rfl) (by kernel_rfl) (by kernel_rfl)) (SEs_cons SE_int (SEs_cons (SE_var (i := 1) (by kernel_rfl) (by kernel_rfl) (by kernel_rfl)) SEs_nil (by kernel_rfl)) (by kernel_rfl)) (by kernel_rfl)) (by kernel_rfl) (by kernel_rfl) (by kernel_rfl)) (by kernel_rfl)) SSs_nil) SSs_nil)) (SSsf_cons (SSf.of (SS_asg (i := 5) (by kernel_rfl) (by kernel_rfl) (SE_var (i := 1) (by kernel_rfl) (by kernel_rfl) (by kernel_rfl)) (by kernel_rfl))) (SSsf_cons (SSf.of (SS_if (ST_cmp rfl (SE_bin rfl (SE_call H.gnd H.law_cell_is.isFn (SEs_cons (SE_var (i := 0) (by kernel_rfl) (by kernel_rfl) (by kernel_rfl)) (SEs_cons SE_int SEs_nil (by kernel_rfl)) (by kernel_rfl)) (by kernel_rfl) (by kernel_rfl) (by kernel_rfl)) SE_int) SE_int (by kernel_rfl)) (SSs_cons (SS_asg (i := 5) (by kernel_rfl) (by kernel_rfl) (SE_call H.gnd H.law_strange_is.isFn (SEs_cons (SE_call H.gnd H.law_cell_is.isFn (SEs_cons (SE_var (i := 0) (by kernel_rfl) (by kernel_rfl) (by kernel_rfl)) (SEs_cons SE_int SEs_nil (by kernel_rfl)) (by kernel_rfl)) (by kernel_rfl) (by kernel_rfl) (by kernel_rfl)) (SEs_cons SE_int (SEs_cons SE_int SEs_nil (by kernel_rfl)) (by kernel_rfl)) (by kernel_rfl)) (by kernel_rfl) (by kernel_rfl) (by kernel_rfl)) (by kernel_rfl)) SSs_nil) SSs_nil)) (SSsf_cons (SSf.of (SS_asg (i := 6) (by kernel_rfl) (by kernel_rfl) (SE_bin rfl (SE_call H.gnd H.law_cell_is.isFn (SEs_cons (SE_var (i := 0) (by kernel_rfl) (by kernel_rfl) (by kernel_rfl)) (SEs_cons SE_int SEs_nil (by kernel_rfl)) (by kernel_rfl)) (by kernel_rfl) (by kernel_rfl) (by kernel_rfl)) SE_int) (by kernel_rfl))) (SSsf_cons (SSf.of (SS_asgM (i := 7) (by kernel_rfl) (by kernel_rfl) (SL_list H.gnd (SE_var (i := 2) (by kernel_rfl) (by kernel_rfl) (by kernel_rfl)) (by kernel_rfl) (by kernel_rfl)) (by kernel_rfl))) (SSsf_cons (SSf_told (i := 8) (xs := [7]) H.gnd H.law_told_is.isFn (by kernel_rfl) (by kernel_rfl) (by kernel_rfl) (SEs_cons (SE_var (i := 6) (by kernel_rfl) (by kernel_rfl) (by kernel_rfl)) (SEs_cons (SE_var (i := 5) (by kernel_rfl) (by kernel_rfl) (by kernel_rfl)) (SEs_cons (SE_var (i := 7) (by kernel_rfl) (by kernel_rfl) (by kernel_rfl)) (SEs_cons (SE_var (i := 3) (by kernel_rfl) (by kernel_rfl) (by kernel_rfl)) SEs_nil (by kernel_rfl)) (by kernel_rfl)) (by kernel_rfl)) (by kernel_rfl)) (by kernel_rfl) (by kernel_rfl) (by kernel_rfl)) (SSsf_cons (SSf.of (SS_if (ST_borrow (by kernel_rfl) (ST_or (ST_cmp rfl (SE_var (i := 8) (by kernel_rfl) (by kernel_rfl) (by kernel_rfl)) (SE_call H.gnd H.law_due_is.isFn (SEs_cons (SE_var (i := 5) (by kernel_rfl) (by kernel_rfl) (by kernel_rfl)) (SEs_cons (SE_var (i := 2) (by kernel_rfl) (by kernel_rfl) (by kernel_rfl)) (SEs_cons (SE_var (i := 3) (by kernel_rfl) (by kernel_rfl) (by kernel_rfl)) SEs_nil (by kernel_rfl)) (by kernel_rfl)) (by kernel_rfl)) (by kernel_rfl) (by kernel_rfl) (by kernel_rfl)) (by kernel_rfl)) (ST_one_or (ST_cmp rfl (SE_var (i := 7) (by kernel_rfl) (by kernel_rfl) (by kernel_rfl)) (SE_var (i := 2) (by kernel_rfl) (by kernel_rfl) (by kernel_rfl)) (by kernel_rfl))))) (SSs_cons (SS_ret SE_bool) SSs_nil) SSs_nil)) (SSsf_cons (SSf.of (SS_clr (i := 7) (by kernel_rfl) (by kernel_rfl) (by kernel_rfl) (by kernel_rfl))) (SSsf_cons (SSf.of (SS_app (i := 7) (by kernel_rfl) (by kernel_rfl) (by kernel_rfl) (SE_tup (SEs_cons SE_int (SEs_cons (SE_lst (SL_disp (SEs_cons SE_int SEs_nil (by kernel_rfl)))) SEs_nil (by kernel_rfl)) (by kernel_rfl))) (by kernel_rfl) (by kernel_rfl))) (SSsf_cons (SSf.of (SS_ret (SE_borrow (by kernel_rfl) (SE_cmp rfl (SE_call H.gnd H.law_told_is.isFn (SEs_cons (SE_var (i := 6) (by kernel_rfl) (by kernel_rfl) (by kernel_rfl)) (SEs_cons SE_int (SEs_cons (SE_var (i := 7) (by kernel_rfl) (by kernel_rfl) (by kernel_rfl)) (SEs_cons SE_int SEs_nil (by kernel_rfl)) (by kernel_rfl)) (by kernel_rfl)) (by kernel_rfl)) (by kernel_rfl) (by kernel_rfl) (by kernel_rfl)) SE_str (by kernel_rfl))))) (SSsf.of SSs_nil)))))))))))))))))))

theorem okR_need_vote {X : Cx} {c : CA} (H : Has X c) {n : Nat} : SSR X n c_need_vote n_need_vote (fnBody (stmtAt P 14)) r_need_vote :=
  (SSR_cons (SR1_if (ST_not (ST_plain (SE_call H.gnd H.is_whole_is.isFn (SEs_cons (SE_var (i := 0) (by kernel_rfl) (by kernel_rfl) (by kernel_rfl)) (SEs_cons SE_int (SEs_cons (SE_glob H.gnd (by kernel_rfl) (by kernel_rfl)) SEs_nil (by kernel_rfl)) (by kernel_rfl)) (by kernel_rfl)) (by kernel_rfl) (by kernel_rfl) (by kernel_rfl)) (by kernel_rfl))) (SSR_cons (SR1_raise H.calm H.gnd (by kernel_rfl) (by kernel_rfl)) SS_dead SSR_no) SSR_no) (SS_if (ST_not (ST_plain (SE_call H.gnd H.is_whole_is.isFn (SEs_cons (SE_var (i := 0) (by kernel_rfl) (by kernel_rfl) (by kernel_rfl)) (SEs_cons SE_int (SEs_cons (SE_glob H.gnd (by kernel_rfl) (by kernel_rfl)) SEs_nil (by kernel_rfl)) (by kernel_rfl)) (by kernel_rfl)) (by kernel_rfl) (by kernel_rfl) (by kernel_rfl)) (by kernel_rfl))) (SSs_cons SS_dead SSs_nil) SSs_nil) (SSR_cons (SR1_if (ST_not (ST_plain (SE_call H.gnd H.is_whole_is.isFn (SEs_cons (SE_var (i := 2) (by kernel_rfl) (by kernel_rfl) (by kernel_rfl)) (SEs_cons SE_int (SEs_cons (SE_var (i := 0) (by kernel_rfl) (by kernel_rfl) (by kernel_rfl)) SEs_nil (by kernel_rfl)) (by kernel_rfl)) (by kernel_rfl)) (by kernel_rfl) (by kernel_rfl) (by kernel_rfl)) (by kernel_rfl))) (SSR_cons (SR1_raise H.calm H.gnd (by kernel_rfl) (by kernel_rfl)) SS_dead SSR_no) SSR_no) (SS_if (ST_not (ST_plain (SE_call H.gnd H.is_whole_is.isFn (SEs_cons (SE_var (i := 2) (by kernel_rfl) (by kernel_rfl) (by kernel_rfl)) (SEs_cons SE_int (SEs_cons (SE_var (i := 0) (by kernel_rfl) (by kernel_rfl) (by kernel_rfl)) SEs_nil (by kernel_rfl)) (by kernel_rfl)) (by kernel_rfl)) (by kernel_rfl) (by kernel_rfl) (by kernel_rfl)) (by kernel_rfl))) (SSs_cons SS_dead SSs_nil) SSs_nil) (SSR_cons (SR1_if (ST_cmp rfl (SE_len H.gnd (SE_var (i := 1) (by kernel_rfl) (by kernel_rfl) (by kernel_rfl)) (by kernel_rfl) (by kernel_rfl)) (SE_glob H.gnd (by kernel_rfl) (by kernel_rfl)) (by kernel_rfl)) (SSR_cons (SR1_raise H.calm H.gnd (by kernel_rfl) (by kernel_rfl)) SS_dead SSR_no) SSR_no) (SS_if (ST_cmp rfl (SE_len H.gnd (SE_var (i := 1) (by kernel_rfl) (by kernel_rfl) (by kernel_rfl)) (by kernel_rfl) (by kernel_rfl)) (SE_glob H.gnd (by kernel_rfl) (by kernel_rfl)) (by kernel_rfl)) (SSs_cons SS_dead SSs_nil) SSs_nil) (SSR_cons (SR1_for (tgt_of (by kernel_rfl)) (SI_seq H.calm (SE_var (i := 1) (by kernel_rfl) (by kernel_rfl) (by kernel_rfl))) (SSs_cons (SS_if (ST_not (ST_plain (SE_call H.gnd H.is_ballot_is.isFn (SEs_cons (SE_var (i := 3) (by kernel_rfl) (by kernel_rfl) (by kernel_rfl)) (SEs_cons (SE_var (i := 0) (by kernel_rfl) (by kernel_rfl) (by kernel_rfl)) SEs_nil (by kernel_rfl)) (by kernel_rfl)) (by kernel_rfl) (by kernel_rfl) (by kernel_rfl)) (by kernel_rfl))) (SSs_cons SS_dead SSs_nil) SSs_nil) SSs_nil) (SSR_cons (SR1_if (ST_not (ST_plain (SE_call H.gnd H.is_ballot_is.isFn (SEs_cons (SE_var (i := 3) (by kernel_rfl) (by kernel_rfl) (by kernel_rfl)) (SEs_cons (SE_var (i := 0) (by kernel_rfl) (by kernel_rfl) (by kernel_rfl)) SEs_nil (by kernel_rfl)) (by kernel_rfl)) (by kernel_rfl) (by kernel_rfl) (by kernel_rfl)) (by kernel_rfl))) (SSR_cons (SR1_raise H.calm H.gnd (by kernel_rfl) (by kernel_rfl)) SS_dead SSR_no) SSR_no) SS_dead SSR_no) (by kernel_rfl)) SS_dead SSR_no))))
theorem callR_need_vote {X : Cx} {c : CA} (H : Has X c) {n : Nat} {d0 d1 d2 : D} {σ : Sg} {C : Addr} (h : r_need_vote X n [.val d0, .val d1, .val d2, .unb] σ (fun C' xx xx => C' = C)) :
    RaiseSem X (n + 1) "need_vote" [d0, d1, d2] σ C := call_introR H.gnd (sq_need_vote ▸ bq_need_vote ▸ H.need_vote_is) (ScOk.of sc_need_vote) (okR_need_vote H) rfl h

theorem okR_Count_init {X : Cx} {c : CA} (H : Has X c) {n : Nat} : SSR X n c_Count_init n_Count_init (fnBody (methAt P 27 0)) r_Count_init :=
  (SSR_cons (SR1_expr (SER_call H.gnd H.need_vote_is.isFn (SEs_cons (SE_var (i := 1) (by kernel_rfl) (by kernel_rfl) (by kernel_rfl)) (SEs_cons (SE_var (i := 2) (by kernel_rfl) (by kernel_rfl) (by kernel_rfl)) (SEs_cons (SE_var (i := 3) (by kernel_rfl) (by kernel_rfl) (by kernel_rfl)) SEs_nil (by kernel_rfl)) (by kernel_rfl)) (by kernel_rfl)) (by kernel_rfl) (by kernel_rfl) (by kernel_rfl)) (by kernel_rfl)) SS_dead SSR_no)
theorem callR_Count_init {X : Cx} {c : CA} (H : Has X c) {n : Nat} {d0 d1 d2 d3 : D} {σ : Sg} {C : Addr} (h : r_Count_init X n [.val d0, .val d1, .val d2, .val d3, .unb] σ (fun C' xx xx => C' = C)) :
    RaiseA X (n + 1) (.ref c.init) [d0, d1, d2, d3] σ C := call_atR H.gnd H.Count_init_is (ScOk.of sc_Count_init) (okR_Count_init H) rfl h

theorem okR_rounds_of {X : Cx} {c : CA} (H : Has X c) {n : Nat} : SSR X n c_rounds_of n_rounds_of (fnBody (stmtAt P 29)) r_rounds_of :=
  (SSR_cons (SR1_asg (SER_make H.gnd (SEs_cons (SE_var (i := 0) (by kernel_rfl) (by kernel_rfl) (by kernel_rfl)) (SEs_cons (SE_var (i := 1) (by kernel_rfl) (by kernel_rfl) (by kernel_rfl)) (SEs_cons (SE_var (i := 2) (by kernel_rfl) (by kernel_rfl) (by kernel_rfl)) SEs_nil (by kernel_rfl)) (by kernel_rfl)) (by kernel_rfl)) (by kernel_rfl) (by kernel_rfl) (by kernel_rfl)) (by kernel_rfl)) SS_dead SSR_no)
theorem callR_rounds_of {X : Cx} {c : CA} (H : Has X c) {n : Nat} {d0 d1 d2 : D} {σ : Sg} {C : Addr} (h : r_rounds_of X n [.val d0, .val d1, .val d2, .unb, .unb, .unb, .unb, .unb, .unb] σ (fun C' xx xx => C' = C)) :
    RaiseSem X (n + 1) "rounds_of" [d0, d1, d2] σ C := call_introR H.gnd (sq_rounds_of ▸ bq_rounds_of ▸ H.rounds_of_is) (ScOk.of sc_rounds_of) (okR_rounds_of H) rfl h

theorem okR_seats_of {X : Cx} {c : CA} (H : Has X c) {n : Nat} : SSR X n c_seats_of n_seats_of (fnBody (stmtAt P 30)) r_seats_of :=
  (SSR_cons (SR1_asg (SER_make H.gnd (SEs_cons (SE_var (i := 0) (by kernel_rfl) (by kernel_rfl) (by kernel_rfl)) (SEs_cons (SE_var (i := 1) (by kernel_rfl) (by kernel_rfl) (by kernel_rfl)) (SEs_cons (SE_var (i := 2) (by kernel_rfl) (by kernel_rfl) (by kernel_rfl)) SEs_nil (by kernel_rfl)) (by kernel_rfl)) (by kernel_rfl)) (by kernel_rfl) (by kernel_rfl) (by kernel_rfl)) (by kernel_rfl)) SS_dead SSR_no)
theorem callR_seats_of {X : Cx} {c : CA} (H : Has X c) {n : Nat} {d0 d1 d2 : D} {σ : Sg} {C : Addr} (h : r_seats_of X n [.val d0, .val d1, .val d2, .unb] σ (fun C' xx xx => C' = C)) :
    RaiseSem X (n + 1) "seats_of" [d0, d1, d2] σ C := call_introR H.gnd (sq_seats_of ▸ bq_seats_of ▸ H.seats_of_is) (ScOk.of sc_seats_of) (okR_seats_of H) rfl h

theorem okR_law_told {X : Cx} {c : CA} (H : Has X c) {n : Nat} : SSR X n c_law_told n_law_told (tryBody (fnBody (stmtAt P 45))) r_law_told :=
  (SSR_cons (SR1_if (ST_cmp rfl (SE_var (i := 0) (by kernel_rfl) (by kernel_rfl) (by kernel_rfl)) SE_int (by kernel_rfl)) (SSR_cons (SR1_expr (SER_make H.gnd (SEs_cons (SE_var (i := 1) (by kernel_rfl) (by kernel_rfl) (by kernel_rfl)) (SEs_cons (SE_var (i := 2) (by kernel_rfl) (by kernel_rfl) (by kernel_rfl)) (SEs_cons (SE_var (i := 3) (by kernel_rfl) (by kernel_rfl) (by kernel_rfl)) SEs_nil (by kernel_rfl)) (by kernel_rfl)) (by kernel_rfl)) (by kernel_rfl) (by kernel_rfl) (by kernel_rfl)) (by kernel_rfl)) SS_dead SSR_no) (SSR_cons (SR1_if (ST_cmp rfl (SE_var (i := 0) (by kernel_rfl) (by kernel_rfl) (by kernel_rfl)) SE_int (by kernel_rfl)) (SSR_cons (SR1_expr (SER_call H.gnd H.rounds_of_is.isFn (SEs_cons (SE_var (i := 1) (by kernel_rfl) (by kernel_rfl) (by kernel_rfl)) (SEs_cons (SE_var (i := 2) (by kernel_rfl) (by kernel_rfl) (by kernel_rfl)) (SEs_cons (SE_var (i := 3) (by kernel_rfl) (by kernel_rfl) (by kernel_rfl)) SEs_nil (by kernel_rfl)) (by kernel_rfl)) (by kernel_rfl)) (by kernel_rfl) (by kernel_rfl) (by kernel_rfl)) (by kernel_rfl)) SS_dead SSR_no) (SSR_cons (SR1_expr (SER_call H.gnd H.seats_of_is.isFn (SEs_cons (SE_var (i := 1) (by kernel_rfl) (by kernel_rfl) (by kernel_rfl)) (SEs_cons (SE_var (i := 2) (by kernel_rfl) (by kernel_rfl) (by kernel_rfl)) (SEs_cons (SE_var (i := 3) (by kernel_rfl) (by kernel_rfl) (by kernel_rfl)) SEs_nil (by kernel_rfl)) (by kernel_rfl)) (by kernel_rfl)) (by kernel_rfl) (by kernel_rfl) (by kernel_rfl)) (by kernel_rfl)) SS_dead SSR_no)) SS_dead SSR_no)) SS_dead SSR_no)

end L04
section
open PySem.W
namespace L04
noncomputable def es_glob (pr : Params) : Array DictEntry :=
  #[{ hash := PySem.PyData.keyHash pr (PySem.Str.ofString "__name__"),
                key := PySem.Value.str (PySem.Str.ofString "__name__") 165,
                val := PySem.Value.str (PySem.Str.ofString "law_uf060016_04") 508 },
              { hash := PySem.PyData.keyHash pr (PySem.Str.ofString "__doc__"),
                key := PySem.Value.str (PySem.Str.ofString "__doc__") 166, val := PySem.Value.none },
              { hash := PySem.PyData.keyHash pr (PySem.Str.ofString "__package__"),
                key := PySem.Value.str (PySem.Str.ofString "__package__") 167, val := PySem.Value.none },
              { hash := PySem.PyData.keyHash pr (PySem.Str.ofString "__loader__"),
                key := PySem.Value.str (PySem.Str.ofString "__loader__") 168,
                val := PySem.Value.builtin "__main__.__loader__#opaque" },
              { hash := PySem.PyData.keyHash pr (PySem.Str.ofString "__spec__"),
                key := PySem.Value.str (PySem.Str.ofString "__spec__") 169, val := PySem.Value.none },
              { hash := PySem.PyData.keyHash pr (PySem.Str.ofString "__annotations__"),
                key := PySem.Value.str (PySem.Str.ofString "__annotations__") 170, val := PySem.Value.ref 6 },
              { hash := PySem.PyData.keyHash pr (PySem.Str.ofString "__builtins__"),
                key := PySem.Value.str (PySem.Str.ofString "__builtins__") 171, val := PySem.Value.ref 4 },
              { hash := PySem.PyData.keyHash pr (PySem.Str.ofString "__file__"),
                key := PySem.Value.str (PySem.Str.ofString "__file__") 173,
                val := PySem.Value.str (PySem.Str.ofString "/claim/cut.py") 172 },
              { hash := PySem.PyData.keyHash pr (PySem.Str.ofString "__cached__"),
                key := PySem.Value.str (PySem.Str.ofString "__cached__") 174, val := PySem.Value.none },
              { hash := PySem.PyData.keyHash pr (PySem.Str.ofString "_wall"),
                key := PySem.Value.str (PySem.Str.ofString "_wall") 193, val := PySem.Value.ref 21 },
              { hash := PySem.PyData.keyHash pr (PySem.Str.ofString "VoteError"),
                key := PySem.Value.str (PySem.Str.ofString "VoteError") 213, val := PySem.Value.ref 31 },
              { hash := PySem.PyData.keyHash pr (PySem.Str.ofString "BadCount"),
                key := PySem.Value.str (PySem.Str.ofString "BadCount") 229, val := PySem.Value.ref 44 },
              { hash := PySem.PyData.keyHash pr (PySem.Str.ofString "BadSeats"),
                key := PySem.Value.str (PySem.Str.ofString "BadSeats") 245, val := PySem.Value.ref 56 },
              { hash := PySem.PyData.keyHash pr (PySem.Str.ofString "TooMany"),
                key := PySem.Value.str (PySem.Str.ofString "TooMany") 261, val := PySem.Value.ref 68 },
              { hash := PySem.PyData.keyHash pr (PySem.Str.ofString "BadBallot"),
                key := PySem.Value.str (PySem.Str.ofString "BadBallot") 277, val := PySem.Value.ref 80 },
              { hash := PySem.PyData.keyHash pr (PySem.Str.ofString "MOST_CANDIDATES"),
                key := PySem.Value.str (PySem.Str.ofString "MOST_CANDIDATES") 281, val := PySem.Value.int 12 280 },
              { hash := PySem.PyData.keyHash pr (PySem.Str.ofString "MOST_BALLOTS"),
                key := PySem.Value.str (PySem.Str.ofString "MOST_BALLOTS") 283, val := PySem.Value.int 40 282 },
              { hash := PySem.PyData.keyHash pr (PySem.Str.ofString "MOST_WEIGHT"),
                key := PySem.Value.str (PySem.Str.ofString "MOST_WEIGHT") 285, val := PySem.Value.int 1000000000 284 },
              { hash := PySem.PyData.keyHash pr (PySem.Str.ofString "is_whole"),
                key := PySem.Value.str (PySem.Str.ofString "is_whole") 294, val := PySem.Value.ref 89 },
              { hash := PySem.PyData.keyHash pr (PySem.Str.ofString "is_row"),
                key := PySem.Value.str (PySem.Str.ofString "is_row") 304, val := PySem.Value.ref 96 },
              { hash := PySem.PyData.keyHash pr (PySem.Str.ofString "is_ballot"),
                key := PySem.Value.str (PySem.Str.ofString "is_ballot") 312, val := PySem.Value.ref 103 },
              { hash := PySem.PyData.keyHash pr (PySem.Str.ofString "need_vote"),
                key := PySem.Value.str (PySem.Str.ofString "need_vote") 322, val := PySem.Value.ref 110 },
              { hash := PySem.PyData.keyHash pr (PySem.Str.ofString "most_held"),
                key := PySem.Value.str (PySem.Str.ofString "most_held") 334, val := PySem.Value.ref 117 },
              { hash := PySem.PyData.keyHash pr (PySem.Str.ofString "least_held"),
                key := PySem.Value.str (PySem.Str.ofString "least_held") 344, val := PySem.Value.ref 124 },
              { hash := PySem.PyData.keyHash pr (PySem.Str.ofString "deed_of"),
                key := PySem.Value.str (PySem.Str.ofString "deed_of") 355, val := PySem.Value.ref 131 },
              { hash := PySem.PyData.keyHash pr (PySem.Str.ofString "place_of"),
                key := PySem.Value.str (PySem.Str.ofString "place_of") 366, val := PySem.Value.ref 138 },
              { hash := PySem.PyData.keyHash pr (PySem.Str.ofString "held"),
                key := PySem.Value.str (PySem.Str.ofString "held") 378, val := PySem.Value.ref 145 },
              { hash := PySem.PyData.keyHash pr (PySem.Str.ofString "all_weights"),
                key := PySem.Value.str (PySem.Str.ofString "all_weights") 386, val := PySem.Value.ref 150 },
              { hash := PySem.PyData.keyHash pr (PySem.Str.ofString "quota"),
                key := PySem.Value.str (PySem.Str.ofString "quota") 394, val := PySem.Value.ref 157 },
              { hash := PySem.PyData.keyHash pr (PySem.Str.ofString "parts"),
                key := PySem.Value.str (PySem.Str.ofString "parts") 408, val := PySem.Value.ref 164 },
              { hash := PySem.PyData.keyHash pr (PySem.Str.ofString "Count"),
                key := PySem.Value.str (PySem.Str.ofString "Count") 480, val := PySem.Value.ref 215 },
              { hash := PySem.PyData.keyHash pr (PySem.Str.ofString "rounds_of"),
                key := PySem.Value.str (PySem.Str.ofString "rounds_of") 497, val := PySem.Value.ref 226 },
              { hash := PySem.PyData.keyHash pr (PySem.Str.ofString "seats_of"),
                key := PySem.Value.str (PySem.Str.ofString "seats_of") 507, val := PySem.Value.ref 233 },
              { hash := PySem.PyData.keyHash pr (PySem.Str.ofString "_law_cell"),
                key := PySem.Value.str (PySem.Str.ofString "_law_cell") 518, val := PySem.Value.ref 240 },
              { hash := PySem.PyData.keyHash pr (PySem.Str.ofString "_law_whole"),
                key := PySem.Value.str (PySem.Str.ofString "_law_whole") 525, val := PySem.Value.ref 247 },
              { hash := PySem.PyData.keyHash pr (PySem.Str.ofString "_law_row"),
                key := PySem.Value.str (PySem.Str.ofString "_law_row") 537, val := PySem.Value.ref 254 },
              { hash := PySem.PyData.keyHash pr (PySem.Str.ofString "_law_weight"),
                key := PySem.Value.str (PySem.Str.ofString "_law_weight") 545, val := PySem.Value.ref 261 },
              { hash := PySem.PyData.keyHash pr (PySem.Str.ofString "_law_candidates"),
                key := PySem.Value.str (PySem.Str.ofString "_law_candidates") 552, val := PySem.Value.ref 268 },
              { hash := PySem.PyData.keyHash pr (PySem.Str.ofString "_law_ballots"),
                key := PySem.Value.str (PySem.Str.ofString "_law_ballots") 558, val := PySem.Value.ref 273 },
              { hash := PySem.PyData.keyHash pr (PySem.Str.ofString "_law_copy"),
                key := PySem.Value.str (PySem.Str.ofString "_law_copy") 564, val := PySem.Value.ref 278 },
              { hash := PySem.PyData.keyHash pr (PySem.Str.ofString "_law_strange"),
                key := PySem.Value.str (PySem.Str.ofString "_law_strange") 574, val := PySem.Value.ref 285 },
              { hash := PySem.PyData.keyHash pr (PySem.Str.ofString "_law_wrong"),
                key := PySem.Value.str (PySem.Str.ofString "_law_wrong") 587, val := PySem.Value.ref 292 },
              { hash := PySem.PyData.keyHash pr (PySem.Str.ofString "_law_is"),
                key := PySem.Value.str (PySem.Str.ofString "_law_is") 596, val := PySem.Value.ref 299 },
              { hash := PySem.PyData.keyHash pr (PySem.Str.ofString "_law_good"),
                key := PySem.Value.str (PySem.Str.ofString "_law_good") 602, val := PySem.Value.ref 304 },
              { hash := PySem.PyData.keyHash pr (PySem.Str.ofString "_law_due"),
                key := PySem.Value.str (PySem.Str.ofString "_law_due") 608, val := PySem.Value.ref 309 },
              { hash := PySem.PyData.keyHash pr (PySem.Str.ofString "_law_word"),
                key := PySem.Value.str (PySem.Str.ofString "_law_word") 616, val := PySem.Value.ref 316 },
              { hash := PySem.PyData.keyHash pr (PySem.Str.ofString "_law_told"),
                key := PySem.Value.str (PySem.Str.ofString "_law_told") 627, val := PySem.Value.ref 323 },
              { hash := PySem.PyData.keyHash pr (PySem.Str.ofString "law"),
                key := PySem.Value.str (PySem.Str.ofString "law") 642, val := PySem.Value.ref 330 }]
noncomputable def o_glob (pr : Params) : Obj := { cls := .type "dict", data := .dict (es_glob pr) 48 }
noncomputable def o_ns (pr : Params) : Obj :=
  { cls := PySem.Value.type "dict",
        data :=
          PySem.Data.dict
            #[{ hash := PySem.PyData.keyHash pr (PySem.Str.ofString "__module__"),
                key := PySem.Value.str (PySem.Str.ofString "__module__") 418,
                val := PySem.Value.str (PySem.Str.ofString "passvote.counting") 409 },
              { hash := PySem.PyData.keyHash pr (PySem.Str.ofString "__firstlineno__"),
                key := PySem.Value.str (PySem.Str.ofString "__firstlineno__") 422, val := PySem.Value.int 93 421 },
              { hash := PySem.PyData.keyHash pr (PySem.Str.ofString "__init__"),
                key := PySem.Value.str (PySem.Str.ofString "__init__") 428, val := PySem.Value.ref 176 },
              { hash := PySem.PyData.keyHash pr (PySem.Str.ofString "step"),
                key := PySem.Value.str (PySem.Str.ofString "step") 434, val := PySem.Value.ref 181 },
              { hash := PySem.PyData.keyHash pr (PySem.Str.ofString "back"),
                key := PySem.Value.str (PySem.Str.ofString "back") 441, val := PySem.Value.ref 188 },
              { hash := PySem.PyData.keyHash pr (PySem.Str.ofString "standing"),
                key := PySem.Value.str (PySem.Str.ofString "standing") 448, val := PySem.Value.ref 195 },
              { hash := PySem.PyData.keyHash pr (PySem.Str.ofString "places"),
                key := PySem.Value.str (PySem.Str.ofString "places") 454, val := PySem.Value.ref 200 },
              { hash := PySem.PyData.keyHash pr (PySem.Str.ofString "left"),
                key := PySem.Value.str (PySem.Str.ofString "left") 461, val := PySem.Value.ref 207 },
              { hash := PySem.PyData.keyHash pr (PySem.Str.ofString "seats"),
                key := PySem.Value.str (PySem.Str.ofString "seats") 467, val := PySem.Value.ref 212 },
              { hash := PySem.PyData.keyHash pr (PySem.Str.ofString "__static_attributes__"),
                key := PySem.Value.str (PySem.Str.ofString "__static_attributes__") 473, val := PySem.Value.ref 213 },
              { hash := PySem.PyData.keyHash pr (PySem.Str.ofString "__dict__"),
                key := PySem.Value.str (PySem.Str.ofString "__dict__") 475, val := PySem.Value.ref 216 },
              { hash := PySem.PyData.keyHash pr (PySem.Str.ofString "__weakref__"),
                key := PySem.Value.str (PySem.Str.ofString "__weakref__") 477, val := PySem.Value.ref 217 },
              { hash := PySem.PyData.keyHash pr (PySem.Str.ofString "__doc__"),
                key := PySem.Value.str (PySem.Str.ofString "__doc__") 478, val := PySem.Value.none }]
            4 }
noncomputable def o_cls : Obj :=
  { cls := PySem.Value.type "type",
        data :=
          PySem.Data.cls
            { name := PySem.Str.ofString "Count", bases := [PySem.Value.type "object"],
              mro := [PySem.Value.ref 215, PySem.Value.type "object"], ns := 214, qualname := PySem.Str.ofString "Count" },
        slots :=
          #[none, none, some (PySem.Value.str (PySem.Str.ofString "Count") 411),
            some (PySem.Value.str (PySem.Str.ofString "Count") 419), some (PySem.Value.builtin "object.__new__"),
            some (PySem.Value.bool true)] }
noncomputable def xe_VoteError (pr : Params) : Array DictEntry :=
  #[{ hash := PySem.PyData.keyHash pr (PySem.Str.ofString "__module__"),
                key := PySem.Value.str (PySem.Str.ofString "__module__") 203,
                val := PySem.Value.str (PySem.Str.ofString "passvote.errors") 194 },
              { hash := PySem.PyData.keyHash pr (PySem.Str.ofString "__firstlineno__"),
                key := PySem.Value.str (PySem.Str.ofString "__firstlineno__") 207, val := PySem.Value.int 5 206 },
              { hash := PySem.PyData.keyHash pr (PySem.Str.ofString "__static_attributes__"),
                key := PySem.Value.str (PySem.Str.ofString "__static_attributes__") 208, val := PySem.Value.ref 29 },
              { hash := PySem.PyData.keyHash pr (PySem.Str.ofString "__weakref__"),
                key := PySem.Value.str (PySem.Str.ofString "__weakref__") 210, val := PySem.Value.ref 32 },
              { hash := PySem.PyData.keyHash pr (PySem.Str.ofString "__doc__"),
                key := PySem.Value.str (PySem.Str.ofString "__doc__") 211, val := PySem.Value.none }]
noncomputable def xn_VoteError (pr : Params) : Obj := { cls := .type "dict", data := .dict (xe_VoteError pr) 3 }
noncomputable def xc_VoteError : Obj :=
  { cls := PySem.Value.type "type",
        data :=
          PySem.Data.cls
            { name := PySem.Str.ofString "VoteError", bases := [PySem.Value.type "ValueError"],
              mro :=
                [PySem.Value.ref 31, PySem.Value.type "ValueError", PySem.Value.type "Exception",
                  PySem.Value.type "BaseException", PySem.Value.type "object"],
              ns := 30, qualname := PySem.Str.ofString "VoteError",
              subclasses := [PySem.Value.ref 44, PySem.Value.ref 56, PySem.Value.ref 68, PySem.Value.ref 80] },
        slots :=
          #[some (PySem.Value.ref 22), none, some (PySem.Value.str (PySem.Str.ofString "VoteError") 196),
            some (PySem.Value.str (PySem.Str.ofString "VoteError") 204), some (PySem.Value.builtin "ValueError.__new__"),
            some (PySem.Value.bool true)] }
noncomputable def xe_BadCount (pr : Params) : Array DictEntry :=
  #[{ hash := PySem.PyData.keyHash pr (PySem.Str.ofString "__module__"),
                key := PySem.Value.str (PySem.Str.ofString "__module__") 221,
                val := PySem.Value.str (PySem.Str.ofString "passvote.errors") 194 },
              { hash := PySem.PyData.keyHash pr (PySem.Str.ofString "__firstlineno__"),
                key := PySem.Value.str (PySem.Str.ofString "__firstlineno__") 225, val := PySem.Value.int 7 224 },
              { hash := PySem.PyData.keyHash pr (PySem.Str.ofString "__static_attributes__"),
                key := PySem.Value.str (PySem.Str.ofString "__static_attributes__") 226, val := PySem.Value.ref 42 },
              { hash := PySem.PyData.keyHash pr (PySem.Str.ofString "__doc__"),
                key := PySem.Value.str (PySem.Str.ofString "__doc__") 227, val := PySem.Value.none }]
noncomputable def xn_BadCount (pr : Params) : Obj := { cls := .type "dict", data := .dict (xe_BadCount pr) 2 }
noncomputable def xc_BadCount : Obj :=
  { cls := PySem.Value.type "type",
        data :=
          PySem.Data.cls
            { name := PySem.Str.ofString "BadCount", bases := [PySem.Value.ref 31],
              mro :=
                [PySem.Value.ref 44, PySem.Value.ref 31, PySem.Value.type "ValueError", PySem.Value.type "Exception",
                  PySem.Value.type "BaseException", PySem.Value.type "object"],
              ns := 43, qualname := PySem.Str.ofString "BadCount" },
        slots :=
          #[some (PySem.Value.ref 35), none, some (PySem.Value.str (PySem.Str.ofString "BadCount") 214),
            some (PySem.Value.str (PySem.Str.ofString "BadCount") 222), some (PySem.Value.builtin "ValueError.__new__"),
            some (PySem.Value.bool true)] }
noncomputable def xe_BadSeats (pr : Params) : Array DictEntry :=
  #[{ hash := PySem.PyData.keyHash pr (PySem.Str.ofString "__module__"),
                key := PySem.Value.str (PySem.Str.ofString "__module__") 237,
                val := PySem.Value.str (PySem.Str.ofString "passvote.errors") 194 },
              { hash := PySem.PyData.keyHash pr (PySem.Str.ofString "__firstlineno__"),
                key := PySem.Value.str (PySem.Str.ofString "__firstlineno__") 241, val := PySem.Value.int 9 240 },
              { hash := PySem.PyData.keyHash pr (PySem.Str.ofString "__static_attributes__"),
                key := PySem.Value.str (PySem.Str.ofString "__static_attributes__") 242, val := PySem.Value.ref 54 },
              { hash := PySem.PyData.keyHash pr (PySem.Str.ofString "__doc__"),
                key := PySem.Value.str (PySem.Str.ofString "__doc__") 243, val := PySem.Value.none }]
noncomputable def xn_BadSeats (pr : Params) : Obj := { cls := .type "dict", data := .dict (xe_BadSeats pr) 2 }
noncomputable def xc_BadSeats : Obj :=
  { cls := PySem.Value.type "type",
        data :=
          PySem.Data.cls
            { name := PySem.Str.ofString "BadSeats", bases := [PySem.Value.ref 31],
              mro :=
                [PySem.Value.ref 56, PySem.Value.ref 31, PySem.Value.type "ValueError", PySem.Value.type "Exception",
                  PySem.Value.type "BaseException", PySem.Value.type "object"],
              ns := 55, qualname := PySem.Str.ofString "BadSeats" },
        slots :=
          #[some (PySem.Value.ref 47), none, some (PySem.Value.str (PySem.Str.ofString "BadSeats") 230),
            some (PySem.Value.str (PySem.Str.ofString "BadSeats") 238), some (PySem.Value.builtin "ValueError.__new__"),
            some (PySem.Value.bool true)] }
noncomputable def xe_TooMany (pr : Params) : Array DictEntry :=
  #[{ hash := PySem.PyData.keyHash pr (PySem.Str.ofString "__module__"),
                key := PySem.Value.str (PySem.Str.ofString "__module__") 253,
                val := PySem.Value.str (PySem.Str.ofString "passvote.errors") 194 },
              { hash := PySem.PyData.keyHash pr (PySem.Str.ofString "__firstlineno__"),
                key := PySem.Value.str (PySem.Str.ofString "__firstlineno__") 257, val := PySem.Value.int 11 256 },
              { hash := PySem.PyData.keyHash pr (PySem.Str.ofString "__static_attributes__"),
                key := PySem.Value.str (PySem.Str.ofString "__static_attributes__") 258, val := PySem.Value.ref 66 },
              { hash := PySem.PyData.keyHash pr (PySem.Str.ofString "__doc__"),
                key := PySem.Value.str (PySem.Str.ofString "__doc__") 259, val := PySem.Value.none }]
noncomputable def xn_TooMany (pr : Params) : Obj := { cls := .type "dict", data := .dict (xe_TooMany pr) 2 }
noncomputable def xc_TooMany : Obj :=
  { cls := PySem.Value.type "type",
        data :=
          PySem.Data.cls
            { name := PySem.Str.ofString "TooMany", bases := [PySem.Value.ref 31],
              mro :=
                [PySem.Value.ref 68, PySem.Value.ref 31, PySem.Value.type "ValueError", PySem.Value.type "Exception",
                  PySem.Value.type "BaseException", PySem.Value.type "object"],
              ns := 67, qualname := PySem.Str.ofString "TooMany" },
        slots :=
          #[some (PySem.Value.ref 59), none, some (PySem.Value.str (PySem.Str.ofString "TooMany") 246),
            some (PySem.Value.str (PySem.Str.ofString "TooMany") 254), some (PySem.Value.builtin "ValueError.__new__"),
            some (PySem.Value.bool true)] }
noncomputable def xe_BadBallot (pr : Params) : Array DictEntry :=
  #[{ hash := PySem.PyData.keyHash pr (PySem.Str.ofString "__module__"),
                key := PySem.Value.str (PySem.Str.ofString "__module__") 269,
                val := PySem.Value.str (PySem.Str.ofString "passvote.errors") 194 },
              { hash := PySem.PyData.keyHash pr (PySem.Str.ofString "__firstlineno__"),
                key := PySem.Value.str (PySem.Str.ofString "__firstlineno__") 273, val := PySem.Value.int 13 272 },
              { hash := PySem.PyData.keyHash pr (PySem.Str.ofString "__static_attributes__"),
                key := PySem.Value.str (PySem.Str.ofString "__static_attributes__") 274, val := PySem.Value.ref 78 },
              { hash := PySem.PyData.keyHash pr (PySem.Str.ofString "__doc__"),
                key := PySem.Value.str (PySem.Str.ofString "__doc__") 275, val := PySem.Value.none }]
noncomputable def xn_BadBallot (pr : Params) : Obj := { cls := .type "dict", data := .dict (xe_BadBallot pr) 2 }
noncomputable def xc_BadBallot : Obj :=
  { cls := PySem.Value.type "type",
        data :=
          PySem.Data.cls
            { name := PySem.Str.ofString "BadBallot", bases := [PySem.Value.ref 31],
              mro :=
                [PySem.Value.ref 80, PySem.Value.ref 31, PySem.Value.type "ValueError", PySem.Value.type "Exception",
                  PySem.Value.type "BaseException", PySem.Value.type "object"],
              ns := 79, qualname := PySem.Str.ofString "BadBallot" },
        slots :=
          #[some (PySem.Value.ref 71), none, some (PySem.Value.str (PySem.Str.ofString "BadBallot") 262),
            some (PySem.Value.str (PySem.Str.ofString "BadBallot") 270), some (PySem.Value.builtin "ValueError.__new__"),
            some (PySem.Value.bool true)] }
noncomputable def fd_init : FuncData := { name := "__init__", qualname := "Count.__init__", params := fnArgs (methAt P 27 0), body := .stmts (fnBody (methAt P 27 0)), scope := fnScope (methAt P 27 0), globals := 3, closure := [], defaults := .none, kwdefaults := .none, pyModule := PySem.Value.str (PySem.Str.ofString "passvote.counting") 409, code := .ref 175 }
noncomputable def o_init : Obj := { cls := .type "function", data := .func fd_init }
noncomputable def k_init : Obj :=
  { cls := PySem.Value.type "code",
        data :=
          PySem.Data.fields
            #[PySem.Value.str (PySem.Str.ofString "__init__") 423, PySem.Value.str (PySem.Str.ofString "Count.__init__") 424,
              PySem.Value.str (PySem.Str.ofString "/claim/cut.py") 425, PySem.Value.int 95 0, PySem.Value.int 4 0,
              PySem.Value.int 0 0, PySem.Value.int 0 0, PySem.Value.int 3 0, PySem.Value.ref 172, PySem.Value.bool true,
              PySem.Value.int 181 0, PySem.Value.ref 173, PySem.Value.none, PySem.Value.none, PySem.Value.none,
              PySem.Value.ref 174, PySem.Value.int 426 0, PySem.Value.int 95 0,
              PySem.Value.str (PySem.Str.ofString "/claim/cut.py") 427] }
noncomputable def fd_step : FuncData := { name := "step", qualname := "Count.step", params := fnArgs (methAt P 27 1), body := .stmts (fnBody (methAt P 27 1)), scope := fnScope (methAt P 27 1), globals := 3, closure := [], defaults := .none, kwdefaults := .none, pyModule := PySem.Value.str (PySem.Str.ofString "passvote.counting") 409, code := .ref 180 }
noncomputable def o_step : Obj := { cls := .type "function", data := .func fd_step }
noncomputable def k_step : Obj :=
  { cls := PySem.Value.type "code",
        data :=
          PySem.Data.fields
            #[PySem.Value.str (PySem.Str.ofString "step") 429, PySem.Value.str (PySem.Str.ofString "Count.step") 430,
              PySem.Value.str (PySem.Str.ofString "/claim/cut.py") 431, PySem.Value.int 103 0, PySem.Value.int 1 0,
              PySem.Value.int 0 0, PySem.Value.int 0 0, PySem.Value.int 3 0, PySem.Value.ref 177, PySem.Value.bool true,
              PySem.Value.int 181 0, PySem.Value.ref 178, PySem.Value.none, PySem.Value.none, PySem.Value.none,
              PySem.Value.ref 179, PySem.Value.int 432 0, PySem.Value.int 103 0,
              PySem.Value.str (PySem.Str.ofString "/claim/cut.py") 433] }
noncomputable def fd_back : FuncData := { name := "back", qualname := "Count.back", params := fnArgs (methAt P 27 2), body := .stmts (fnBody (methAt P 27 2)), scope := fnScope (methAt P 27 2), globals := 3, closure := [], defaults := .none, kwdefaults := .none, pyModule := PySem.Value.str (PySem.Str.ofString "passvote.counting") 409, code := .ref 187 }
noncomputable def o_back : Obj := { cls := .type "function", data := .func fd_back }
noncomputable def k_back : Obj :=
  { cls := PySem.Value.type "code",
        data :=
          PySem.Data.fields
            #[PySem.Value.str (PySem.Str.ofString "back") 435, PySem.Value.str (PySem.Str.ofString "Count.back") 436,
              PySem.Value.str (PySem.Str.ofString "/claim/cut.py") 437, PySem.Value.int 127 0, PySem.Value.int 1 0,
              PySem.Value.int 0 0, PySem.Value.int 0 0, PySem.Value.int 3 0, PySem.Value.ref 182, PySem.Value.bool true,
              PySem.Value.int 181 0, PySem.Value.ref 183, PySem.Value.none, PySem.Value.ref 184, PySem.Value.ref 185,
              PySem.Value.ref 186, PySem.Value.int 439 0, PySem.Value.int 127 0,
              PySem.Value.str (PySem.Str.ofString "/claim/cut.py") 440] }
noncomputable def fd_standing : FuncData := { name := "standing", qualname := "Count.standing", params := fnArgs (methAt P 27 3), body := .stmts (fnBody (methAt P 27 3)), scope := fnScope (methAt P 27 3), globals := 3, closure := [], defaults := .none, kwdefaults := .none, pyModule := PySem.Value.str (PySem.Str.ofString "passvote.counting") 409, code := .ref 194 }
noncomputable def o_standing : Obj := { cls := .type "function", data := .func fd_standing }
noncomputable def k_standing : Obj :=
  { cls := PySem.Value.type "code",
        data :=
          PySem.Data.fields
            #[PySem.Value.str (PySem.Str.ofString "standing") 442, PySem.Value.str (PySem.Str.ofString "Count.standing") 443,
              PySem.Value.str (PySem.Str.ofString "/claim/cut.py") 444, PySem.Value.int 130 0, PySem.Value.int 1 0,
              PySem.Value.int 0 0, PySem.Value.int 0 0, PySem.Value.int 3 0, PySem.Value.ref 189, PySem.Value.bool true,
              PySem.Value.int 181 0, PySem.Value.ref 190, PySem.Value.none, PySem.Value.ref 191, PySem.Value.ref 192,
              PySem.Value.ref 193, PySem.Value.int 446 0, PySem.Value.int 130 0,
              PySem.Value.str (PySem.Str.ofString "/claim/cut.py") 447] }
noncomputable def fd_places : FuncData := { name := "places", qualname := "Count.places", params := fnArgs (methAt P 27 4), body := .stmts (fnBody (methAt P 27 4)), scope := fnScope (methAt P 27 4), globals := 3, closure := [], defaults := .none, kwdefaults := .none, pyModule := PySem.Value.str (PySem.Str.ofString "passvote.counting") 409, code := .ref 199 }
noncomputable def o_places : Obj := { cls := .type "function", data := .func fd_places }
noncomputable def k_places : Obj :=
  { cls := PySem.Value.type "code",
        data :=
          PySem.Data.fields
            #[PySem.Value.str (PySem.Str.ofString "places") 449, PySem.Value.str (PySem.Str.ofString "Count.places") 450,
              PySem.Value.str (PySem.Str.ofString "/claim/cut.py") 451, PySem.Value.int 133 0, PySem.Value.int 1 0,
              PySem.Value.int 0 0, PySem.Value.int 0 0, PySem.Value.int 3 0, PySem.Value.ref 196, PySem.Value.bool true,
              PySem.Value.int 181 0, PySem.Value.ref 197, PySem.Value.none, PySem.Value.none, PySem.Value.none,
              PySem.Value.ref 198, PySem.Value.int 452 0, PySem.Value.int 133 0,
              PySem.Value.str (PySem.Str.ofString "/claim/cut.py") 453] }
noncomputable def fd_left : FuncData := { name := "left", qualname := "Count.left", params := fnArgs (methAt P 27 5), body := .stmts (fnBody (methAt P 27 5)), scope := fnScope (methAt P 27 5), globals := 3, closure := [], defaults := .none, kwdefaults := .none, pyModule := PySem.Value.str (PySem.Str.ofString "passvote.counting") 409, code := .ref 206 }
noncomputable def o_left : Obj := { cls := .type "function", data := .func fd_left }
noncomputable def k_left : Obj :=
  { cls := PySem.Value.type "code",
        data :=
          PySem.Data.fields
            #[PySem.Value.str (PySem.Str.ofString "left") 455, PySem.Value.str (PySem.Str.ofString "Count.left") 456,
              PySem.Value.str (PySem.Str.ofString "/claim/cut.py") 457, PySem.Value.int 137 0, PySem.Value.int 1 0,
              PySem.Value.int 0 0, PySem.Value.int 0 0, PySem.Value.int 3 0, PySem.Value.ref 201, PySem.Value.bool true,
              PySem.Value.int 181 0, PySem.Value.ref 202, PySem.Value.none, PySem.Value.ref 203, PySem.Value.ref 204,
              PySem.Value.ref 205, PySem.Value.int 459 0, PySem.Value.int 137 0,
              PySem.Value.str (PySem.Str.ofString "/claim/cut.py") 460] }
noncomputable def fd_seats : FuncData := { name := "seats", qualname := "Count.seats", params := fnArgs (methAt P 27 6), body := .stmts (fnBody (methAt P 27 6)), scope := fnScope (methAt P 27 6), globals := 3, closure := [], defaults := .none, kwdefaults := .none, pyModule := PySem.Value.str (PySem.Str.ofString "passvote.counting") 409, code := .ref 211 }
noncomputable def o_seats : Obj := { cls := .type "function", data := .func fd_seats }
noncomputable def k_seats : Obj :=
  { cls := PySem.Value.type "code",
        data :=
          PySem.Data.fields
            #[PySem.Value.str (PySem.Str.ofString "seats") 462, PySem.Value.str (PySem.Str.ofString "Count.seats") 463,
              PySem.Value.str (PySem.Str.ofString "/claim/cut.py") 464, PySem.Value.int 140 0, PySem.Value.int 1 0,
              PySem.Value.int 0 0, PySem.Value.int 0 0, PySem.Value.int 3 0, PySem.Value.ref 208, PySem.Value.bool true,
              PySem.Value.int 181 0, PySem.Value.ref 209, PySem.Value.none, PySem.Value.none, PySem.Value.none,
              PySem.Value.ref 210, PySem.Value.int 465 0, PySem.Value.int 140 0,
              PySem.Value.str (PySem.Str.ofString "/claim/cut.py") 466] }
noncomputable def frag (pr : Params) : Frag := [(3, o_glob pr), (30, xn_VoteError pr), (31, xc_VoteError), (43, xn_BadCount pr), (44, xc_BadCount), (55, xn_BadSeats pr), (56, xc_BadSeats), (67, xn_TooMany pr), (68, xc_TooMany), (79, xn_BadBallot pr), (80, xc_BadBallot), (175, k_init), (176, o_init), (180, k_step), (181, o_step), (187, k_back), (188, o_back), (194, k_standing), (195, o_standing), (199, k_places), (200, o_places), (206, k_left), (207, o_left), (211, k_seats), (212, o_seats), (214, o_ns pr), (215, o_cls)]
noncomputable def adrs : List Addr := [3, 30, 31, 43, 44, 55, 56, 67, 68, 79, 80, 175, 176, 180, 181, 187, 188, 194, 195, 199, 200, 206, 207, 211, 212, 214, 215]
noncomputable def ca : CA := ⟨215, 176, 181, 188, 195, 200, 207, 212⟩
section
variable {prog : Program} {w : World} {h : Heap} {mg mb : Str → Option Value}
theorem cnt (KX : (frag w.params).In h) (G : h.Ns mainGlobals mg) : CountIs ⟨prog, w, h, mg, mb, true⟩ ca where
  mg := mg_of KX G (o := o_glob w.params) (es := es_glob w.params) (ep := 48) (by kernel_rfl) (by kernel_rfl) (x := "Count") (by kernel_rfl)
  made := ⟨_, KX, by kernel_rfl⟩
  attr := attr_all KX (by kernel_rfl)
  step := ⟨_, KX, by kernel_rfl⟩
  back := ⟨_, KX, by kernel_rfl⟩
  standing := ⟨_, KX, by kernel_rfl⟩
  places := ⟨_, KX, by kernel_rfl⟩
  left := ⟨_, KX, by kernel_rfl⟩
  seats := ⟨_, KX, by kernel_rfl⟩
  most := ⟨⟨280, mg_of KX G (o := o_glob w.params) (es := es_glob w.params) (ep := 48) (by kernel_rfl) (by kernel_rfl) (x := "MOST_CANDIDATES") (by kernel_rfl)⟩, ⟨282, mg_of KX G (o := o_glob w.params) (es := es_glob w.params) (ep := 48) (by kernel_rfl) (by kernel_rfl) (x := "MOST_BALLOTS") (by kernel_rfl)⟩, ⟨284, mg_of KX G (o := o_glob w.params) (es := es_glob w.params) (ep := 48) (by kernel_rfl) (by kernel_rfl) (x := "MOST_WEIGHT") (by kernel_rfl)⟩⟩
theorem at_init (KX : (frag w.params).In h) : FnAt ⟨prog, w, h, mg, mb, true⟩ ca.init (fnScope (methAt P 27 0)) ["self", "candidates", "ballots", "seats"] (fnBody (methAt P 27 0)) := fnAt_of KX (o := o_init) (fd := fd_init) (by kernel_rfl) rfl rfl rfl rfl rfl rfl (by kernel_rfl) (by kernel_rfl) rfl
theorem at_step (KX : (frag w.params).In h) : FnAt ⟨prog, w, h, mg, mb, true⟩ ca.step (fnScope (methAt P 27 1)) ["self"] (fnBody (methAt P 27 1)) := fnAt_of KX (o := o_step) (fd := fd_step) (by kernel_rfl) rfl rfl rfl rfl rfl rfl (by kernel_rfl) (by kernel_rfl) rfl
theorem at_places (KX : (frag w.params).In h) : FnAt ⟨prog, w, h, mg, mb, true⟩ ca.places (fnScope (methAt P 27 4)) ["self"] (fnBody (methAt P 27 4)) := fnAt_of KX (o := o_places) (fd := fd_places) (by kernel_rfl) rfl rfl rfl rfl rfl rfl (by kernel_rfl) (by kernel_rfl) rfl
theorem at_left (KX : (frag w.params).In h) : FnAt ⟨prog, w, h, mg, mb, true⟩ ca.left (fnScope (methAt P 27 5)) ["self"] (fnBody (methAt P 27 5)) := fnAt_of KX (o := o_left) (fd := fd_left) (by kernel_rfl) rfl rfl rfl rfl rfl rfl (by kernel_rfl) (by kernel_rfl) rfl
theorem at_seats (KX : (frag w.params).In h) : FnAt ⟨prog, w, h, mg, mb, true⟩ ca.seats (fnScope (methAt P 27 6)) ["self"] (fnBody (methAt P 27 6)) := fnAt_of KX (o := o_seats) (fd := fd_seats) (by kernel_rfl) rfl rfl rfl rfl rfl rfl (by kernel_rfl) (by kernel_rfl) rfl
noncomputable def ea : EA := ⟨31, 44, 56, 68, 80⟩
theorem tailV (KX : (frag w.params).In h) : OwnTail h bmV (.ref 31 :: bmV) := tail_at (X := ⟨P, w, h, fun xx => none, fun xx => none, true⟩) KX (A := 31) (oA := xc_VoteError) (by kernel_rfl) rfl (o := xn_VoteError w.params) (es := xe_VoteError w.params) (by kernel_rfl) rfl (by kernel_rfl) (by kernel_rfl)
theorem x_VoteError (KX : (frag w.params).In h) (G : h.Ns mainGlobals mg) : ExcAt ⟨prog, w, h, mg, mb, true⟩ "VoteError" 31 := exc_at (X := ⟨prog, w, h, mg, mb, true⟩) KX (mg_of KX G (o := o_glob w.params) (es := es_glob w.params) (ep := 48) (by kernel_rfl) (by kernel_rfl) (x := "VoteError") (by kernel_rfl)) (oC := xc_VoteError) (by kernel_rfl) rfl (o := xn_VoteError w.params) (es := xe_VoteError w.params) (by kernel_rfl) rfl (by kernel_rfl) (by kernel_rfl) .base
theorem x_BadCount (KX : (frag w.params).In h) (G : h.Ns mainGlobals mg) : ExcAt ⟨prog, w, h, mg, mb, true⟩ "BadCount" 44 := exc_at (X := ⟨prog, w, h, mg, mb, true⟩) KX (mg_of KX G (o := o_glob w.params) (es := es_glob w.params) (ep := 48) (by kernel_rfl) (by kernel_rfl) (x := "BadCount") (by kernel_rfl)) (oC := xc_BadCount) (by kernel_rfl) rfl (o := xn_BadCount w.params) (es := xe_BadCount w.params) (by kernel_rfl) rfl (by kernel_rfl) (by kernel_rfl) (tailV KX)
theorem x_BadSeats (KX : (frag w.params).In h) (G : h.Ns mainGlobals mg) : ExcAt ⟨prog, w, h, mg, mb, true⟩ "BadSeats" 56 := exc_at (X := ⟨prog, w, h, mg, mb, true⟩) KX (mg_of KX G (o := o_glob w.params) (es := es_glob w.params) (ep := 48) (by kernel_rfl) (by kernel_rfl) (x := "BadSeats") (by kernel_rfl)) (oC := xc_BadSeats) (by kernel_rfl) rfl (o := xn_BadSeats w.params) (es := xe_BadSeats w.params) (by kernel_rfl) rfl (by kernel_rfl) (by kernel_rfl) (tailV KX)
theorem x_TooMany (KX : (frag w.params).In h) (G : h.Ns mainGlobals mg) : ExcAt ⟨prog, w, h, mg, mb, true⟩ "TooMany" 68 := exc_at (X := ⟨prog, w, h, mg, mb, true⟩) KX (mg_of KX G (o := o_glob w.params) (es := es_glob w.params) (ep := 48) (by kernel_rfl) (by kernel_rfl) (x := "TooMany") (by kernel_rfl)) (oC := xc_TooMany) (by kernel_rfl) rfl (o := xn_TooMany w.params) (es := xe_TooMany w.params) (by kernel_rfl) rfl (by kernel_rfl) (by kernel_rfl) (tailV KX)
theorem x_BadBallot (KX : (frag w.params).In h) (G : h.Ns mainGlobals mg) : ExcAt ⟨prog, w, h, mg, mb, true⟩ "BadBallot" 80 := exc_at (X := ⟨prog, w, h, mg, mb, true⟩) KX (mg_of KX G (o := o_glob w.params) (es := es_glob w.params) (ep := 48) (by kernel_rfl) (by kernel_rfl) (x := "BadBallot") (by kernel_rfl)) (oC := xc_BadBallot) (by kernel_rfl) rfl (o := xn_BadBallot w.params) (es := xe_BadBallot w.params) (by kernel_rfl) rfl (by kernel_rfl) (by kernel_rfl) (tailV KX)
theorem x_val (KX : (frag w.params).In h) (G : h.Ns mainGlobals mg) (hb : mb "ValueError" = some (.type "ValueError")) : ∀ p ∈ ea.all, ValAt ⟨prog, w, h, mg, mb, true⟩ p.2 := fun p hp => by
  have hm : (ea.all.map (·.2)).all (fun a => PySem.W.subIn (frag w.params) (.ref a) (.type "ValueError") == some true) = true := by kernel_rfl
  exact ⟨_, KX, List.all_eq_true.mp hm _ (List.mem_map.mpr ⟨p, hp, rfl⟩), mg_of KX G (o := o_glob w.params) (es := es_glob w.params) (ep := 48) (by kernel_rfl) (by kernel_rfl) (x := "ValueError") (by kernel_rfl), hb⟩
theorem x_isa (KX : (frag w.params).In h) (G : h.Ns mainGlobals mg) : ∀ p ∈ ea.all, ∀ q ∈ ea.all, IsaAt ⟨prog, w, h, mg, mb, true⟩ p.2 q.1 (q.2 == p.2) := fun p hp q hq => by
  have h1 : ((ea.all.map (·.2)).all fun a => isaChk (frag w.params) a) = true := by kernel_rfl
  have h2 : ((ea.all.map (·.2)).all fun a => (ea.all.map (·.2)).all fun b => b == a || notIsa (frag w.params) a b) = true := by kernel_rfl
  have ha := List.all_eq_true.mp h1 p.2 (List.mem_map.mpr ⟨p, hp, rfl⟩)
  have hn := List.all_eq_true.mp (List.all_eq_true.mp h2 p.2 (List.mem_map.mpr ⟨p, hp, rfl⟩)) q.2 (List.mem_map.mpr ⟨q, hq, rfl⟩)
  have hg : mg q.1 = some (.ref q.2) := by
    simp only [EA.all, ea, List.mem_cons, List.not_mem_nil, or_false] at hq
    rcases hq with rfl | rfl | rfl | rfl
    · exact (x_BadCount (prog := prog) (mb := mb) KX G).bound
    · exact (x_BadSeats (prog := prog) (mb := mb) KX G).bound
    · exact (x_TooMany (prog := prog) (mb := mb) KX G).bound
    · exact (x_BadBallot (prog := prog) (mb := mb) KX G).bound
  refine ⟨_, KX, ha, ?_⟩
  cases e : (q.2 == p.2) with
  | true => exact .inl ⟨rfl, by rw [← beq_iff_eq.mp e]; exact hg⟩
  | false => exact .inr ⟨rfl, q.2, hg, by rw [e] at hn; exact hn⟩
theorem excs (KX : (frag w.params).In h) (G : h.Ns mainGlobals mg) (hb : mb "ValueError" = some (.type "ValueError")) : ExcsIs ⟨prog, w, h, mg, mb, true⟩ ea where
  vote := x_VoteError KX G
  each := fun p hp => by
    refine ⟨?_, ?_, x_val KX G hb p hp, x_isa KX G p hp⟩
    · simp only [EA.all, ea, List.mem_cons, List.not_mem_nil, or_false] at hp
      rcases hp with rfl | rfl | rfl | rfl
      · exact x_BadCount KX G
      · exact x_BadSeats KX G
      · exact x_TooMany KX G
      · exact x_BadBallot KX G
    · simp only [EA.all, ea, List.mem_cons, List.not_mem_nil, or_false] at hp
      rcases hp with rfl | rfl | rfl | rfl
      · exact under_of (X := ⟨prog, w, h, mg, mb, true⟩) KX (x_BadCount KX G) (o := xc_BadCount) (by kernel_rfl) (by kernel_rfl)
      · exact under_of (X := ⟨prog, w, h, mg, mb, true⟩) KX (x_BadSeats KX G) (o := xc_BadSeats) (by kernel_rfl) (by kernel_rfl)
      · exact under_of (X := ⟨prog, w, h, mg, mb, true⟩) KX (x_TooMany KX G) (o := xc_TooMany) (by kernel_rfl) (by kernel_rfl)
      · exact under_of (X := ⟨prog, w, h, mg, mb, true⟩) KX (x_BadBallot KX G) (o := xc_BadBallot) (by kernel_rfl) (by kernel_rfl)
  nd := by decide
end
end L04
end
namespace L04
noncomputable def isW (d : D) (lo hi : Int) : Bool := match d with | .int i => decide (lo ≤ i) && decide (i ≤ hi) | _ => false
noncomputable def toI : D → Int | .int i => i | _ => 0
noncomputable def isRow (d : D) (k : Int) : Bool := match d with | .lst ds => (ds.all fun x => isW x 0 (k - 1)) && decide (ds.map toI).Nodup | _ => false
noncomputable def isBal (d : D) (k : Int) : Bool := match d with | .tup [w, r] => isW w 1 1000000000 && isRow r k | _ => false

theorem isW_int {d : D} {lo hi : Int} (h : isW d lo hi = true) : ∃ i, d = .int i ∧ lo ≤ i ∧ i ≤ hi := by
  cases d <;> simp [isW] at h
  exact ⟨_, rfl, h⟩
theorem ints_of {ds : List D} {lo hi : Int} (h : ∀ x ∈ ds, isW x lo hi = true) : ds = (ds.map toI).map D.int := by
  induction ds with
  | nil => rfl
  | cons d ds ih =>
    obtain ⟨i, rfl, _⟩ := isW_int (h d (by simp))
    simp only [List.map_cons, toI]
    rw [← ih fun x hx => h x (by simp [hx])]

section
variable {X : Cx} {c : CA} {n : Nat} {σ : Sg}
theorem wholeG {d : D} {lo hi : Int} {Q : D → Sg → Prop} (H : Has X c) (hd : ∀ a, d ≠ .ref a) (q : Q (.bool (isW d lo hi)) σ) : CallSem X (n + 1) "is_whole" [d, .int lo, .int hi] σ Q := by
  apply call_is_whole H
  simp only [m_is_whole, M.is_whole]
  rw [ms_cons]
  cases d with
  | ref a => exact absurd rfl (hd a)
  | int i =>
    simp only [ev_nil, ev_cons, E.var, E.cmp2, E.and_, E.not_, E.bi, S.ret, q_val, c_le, cond_bool, not_bool, f_isint, f_isbool, keepS, flD, g_z, g_s, true_and, decide_eq_true_eq, ms_nil, if_true, Bool.not_false]
    by_cases h : lo ≤ i
    · rw [if_pos h]
      simpa [isW, h] using q
    · rw [if_neg h]
      simpa [isW, h] using q
  | _ => exact ⟨fun xx h => h, q⟩

theorem rowG {d : D} {k : Int} {Q : D → Sg → Prop} (H : Has X c) (hd : D.ok 6 d = true) (hl : ∀ ds, d = .lst ds → ds.length ≤ 1000) (q : Q (.bool (isRow d k)) σ) : CallSem X (n + 1 + 1) "is_row" [d, .int k] σ Q := by
  apply call_is_row H
  simp only [m_is_row, M.is_row]
  rw [ms_cons]
  cases d with
  | ref a => cases hd
  | lst ds =>
    have hlen := hl ds rfl
    simp only [D.ok, List.all_eq_true] at hd
    simp only [ev_nil, ev_cons, E.var, E.not_, E.bi, S.iff, q_val, cond_bool, not_bool, f_islist, flD, g_z, ms_nil, if_false, Bool.not_true, Bool.false_eq_true]
    rw [ms_cons]
    simp only [E.var, It.enum, S.for_, q_val, q_lst, g_z, ln_2, true_and]
    refine for_inv (fun j ρ σ' => σ' = σ ∧ (∃ (a b : MV), ρ = [.val (.lst ds), .val (.int k), a, b]) ∧ (∀ x ∈ ds.take j, isW x 0 (k - 1) = true) ∧ ((ds.take j).map toI).Nodup) ?_ ?_ ?_
    · exact ⟨rfl, ⟨.unb, .unb, rfl⟩, by simp, by simp⟩
    · rintro j hj ρ σ' ⟨rfl, ⟨a, b, rfl⟩, hw, hn⟩
      simp only [List.length_mapIdx] at hj
      have hdj := hd ds[j] (List.getElem_mem hj)
      simp only [List.getElem_mapIdx, M.is_row_b1]
      rw [ms_cons]
      simp only [ev_nil, ev_cons, E.cst, E.var, E.bin, E.cmp, E.or_, E.not_, E.lst, E.call, L.upto, S.iff, q_val, q_int, q_lst, b_sub, cond_bool, setAll, g_z, g_s, List.set_cons_zero, List.set_cons_succ, ms_nil, if_true]
      refine wholeG H (noRef_ok hdj) ?_
      simp only [not_bool, true_and, Bool.not_eq_true']
      have et : ds.take (j + 1) = ds.take j ++ [ds[j]] := List.take_succ_eq_append_getElem hj
      cases hx : isW ds[j] 0 (k - 1) with
      | false =>
        rw [ms_cons]
        simp only [E.cst, S.ret, keepS, true_and, ms_nil, if_true]
        have : isRow (.lst ds) k = false := by
          simp only [isRow, Bool.and_eq_false_iff, List.all_eq_false]
          exact .inl ⟨_, List.getElem_mem hj, by simp [hx]⟩
        rw [this] at q; exact q
      | true =>
        simp only [if_false, reduceCtorEq]
        obtain ⟨i, hi, _⟩ := isW_int hx
        have e1 : ds.take j = ((ds.take j).map toI).map D.int := ints_of hw
        have e2 : List.take (Int.toNat (j : Int)) ds = ((ds.take j).map toI).map D.int := e1
        rw [e2, hi]
        simp only [c_in, any_int]
        refine ⟨by first | with_reducible exact oo1 _ | omega, by first | with_reducible exact oo3 ‹_› | omega, by rfl, ok_ints 8 _, ?_⟩
        have en : ((ds.take (j + 1)).map toI) = (ds.take j).map toI ++ [i] := by rw [et, hi]; simp [toI]
        by_cases hm : i ∈ (ds.take j).map toI
        · rw [if_pos (decide_eq_true hm)]
          rw [ms_cons]
          simp only [E.cst, S.ret, keepS, true_and, ms_nil]
          have : isRow (.lst ds) k = false := by
            simp only [isRow, Bool.and_eq_false_iff, decide_eq_false_iff_not]
            refine .inr fun hN => ?_
            have hN' : ((ds.take (j + 1)).map toI).Nodup := by rw [List.map_take]; exact hN.sublist (List.take_sublist _ _)
            rw [en, List.nodup_append] at hN'
            exact hN'.2.2 i hm i (by simp) rfl
          rw [this] at q; exact q
        · rw [if_neg (by rw [decide_eq_true_eq]; exact hm)]
          refine ⟨⟨_, _, rfl⟩, ?_, ?_⟩
          · intro x hx'
            rw [et] at hx'
            rcases List.mem_append.mp hx' with h | h
            · exact hw x h
            · rw [List.mem_singleton.mp h]; exact hx
          · rw [en, List.nodup_append]
            exact ⟨hn, by simp, fun a ha b hb e => by rw [List.mem_singleton.mp hb] at e; exact hm (e ▸ ha)⟩
    · rintro ρ σ' ⟨rfl, ⟨a, b, rfl⟩, hw, hn⟩
      simp only [List.length_mapIdx, List.take_length] at hw hn
      rw [ms_cons]
      simp only [E.cst, S.ret, keepS, true_and, ms_nil]
      have : isRow (.lst ds) k = true := by
        simp only [isRow, Bool.and_eq_true, List.all_eq_true, decide_eq_true_eq]
        exact ⟨hw, hn⟩
      rw [this] at q; exact q
  | _ => exact ⟨fun xx h => h, q⟩

set_option tactic.hygienic true in
theorem balG {d : D} {k : Int} {Q : D → Sg → Prop} (H : Has X c) (hd : D.ok 7 d = true) (hl : ∀ ds, d = .tup ds → ds.length ≤ 1000 ∧ ∀ r ∈ ds, ∀ es, r = .lst es → es.length ≤ 1000) (q : Q (.bool (isBal d k)) σ) : CallSem X (n + 1 + 1 + 1) "is_ballot" [d, .int k] σ Q := by
  obtain ⟨t, hG⟩ := H.cnt.most.2.2
  apply call_is_ballot H
  simp only [m_is_ballot, M.is_ballot]
  rw [ms_cons]
  cases d with
  | ref a => cases hd
  | tup ds =>
    have hlen := (hl ds rfl).1
    simp only [D.ok, List.all_eq_true] at hd
    simp only [ev_nil, ev_cons, E.cst, E.var, E.cmp, E.or_, E.not_, E.bi, S.iff, q_val, c_ne, cond_bool, not_bool, f_lenT, f_istup, flD, g_z, decide_eq_true_eq, ms_nil, if_true, if_false, Bool.not_true, Bool.false_eq_true]
    refine ⟨by first | with_reducible exact oo3 ‹_› | omega, ?_⟩
    by_cases h2 : ds.length = 2
    · rw [if_neg (by simp [h2])]
      match ds, h2, hd, hl, q with
      | [w, r], _, hd, hl, q =>
        rw [ms_cons]
        simp only [ev_nil, ev_cons, E.cst, E.var, E.and_, E.idx, E.call, S.ret, q_val, t_0, t_1, g_z, g_s, ms_nil]
        refine ⟨_, t, hG, ?_⟩
        refine wholeG H (noRef_ok (hd w (by simp))) ?_
        simp only [cond_bool, keepS, true_and]
        cases hw : isW w 1 1000000000 with
        | false =>
          rw [if_neg (by simp)]
          simpa [isBal, hw] using q
        | true =>
          rw [if_pos rfl]
          refine rowG H (hd r (by simp)) (fun es e => (hl _ rfl).2 r (by simp) es e) ?_
          simpa [isBal, hw] using q
    · rw [if_pos (by simp; omega)]
      rw [ms_cons]
      simp only [E.cst, S.ret, keepS, true_and, ms_nil]
      have : isBal (.tup ds) k = false := by
        unfold isBal
        split
        · rename_i e; cases e; exact absurd rfl h2
        · rfl
      rw [this] at q; exact q
  | _ => exact ⟨fun xx h => h, q⟩
end
end L04
namespace L04
noncomputable def due (asked : D) (ds : List D) (seats : D) : Str :=
  if isW asked 1 12 = true then if isW seats 1 (toI asked) = true then if 40 < ds.length then "TooMany" else if (ds.any fun d => !isBal d (toI asked)) = true then "BadBallot" else "" else "BadSeats" else "BadCount"
structure Fit (asked : D) (ds : List D) (seats : D) : Prop where
  asked : D.ok 7 asked = true
  seats : D.ok 7 seats = true
  each : ∀ d ∈ ds, D.ok 7 d = true ∧ ∀ es, d = .tup es → es.length ≤ 1000 ∧ ∀ r ∈ es, ∀ fs, r = .lst fs → fs.length ≤ 1000
  len : ds.length ≤ 1000

theorem ea_bc {x : EA} {p : Str × Addr} (hp : p ∈ x.all) (h : Str.ofString "BadCount" = p.1) : p = (Str.ofString "BadCount", x.bc) := by
  simp only [EA.all, List.mem_cons, List.not_mem_nil, or_false] at hp
  rcases hp with rfl | rfl | rfl | rfl <;> first | rfl | (dsimp only at h; exact absurd h (by decide))
theorem ea_bs {x : EA} {p : Str × Addr} (hp : p ∈ x.all) (h : Str.ofString "BadSeats" = p.1) : p = (Str.ofString "BadSeats", x.bs) := by
  simp only [EA.all, List.mem_cons, List.not_mem_nil, or_false] at hp
  rcases hp with rfl | rfl | rfl | rfl <;> first | rfl | (dsimp only at h; exact absurd h (by decide))
theorem ea_tm {x : EA} {p : Str × Addr} (hp : p ∈ x.all) (h : Str.ofString "TooMany" = p.1) : p = (Str.ofString "TooMany", x.tm) := by
  simp only [EA.all, List.mem_cons, List.not_mem_nil, or_false] at hp
  rcases hp with rfl | rfl | rfl | rfl <;> first | rfl | (dsimp only at h; exact absurd h (by decide))
theorem ea_bb {x : EA} {p : Str × Addr} (hp : p ∈ x.all) (h : Str.ofString "BadBallot" = p.1) : p = (Str.ofString "BadBallot", x.bb) := by
  simp only [EA.all, List.mem_cons, List.not_mem_nil, or_false] at hp
  rcases hp with rfl | rfl | rfl | rfl <;> first | rfl | (dsimp only at h; exact absurd h (by decide))
theorem ea_no {x : EA} {p : Str × Addr} (hp : p ∈ x.all) (h : Str.ofString "" = p.1) : False := by
  simp only [EA.all, List.mem_cons, List.not_mem_nil, or_false] at hp
  rcases hp with rfl | rfl | rfl | rfl <;> (dsimp only at h; exact absurd h (by decide))

section
variable {X : Cx} {c : CA} {n : Nat} {σ : Sg} {x : EA} {asked seats : D} {ds : List D}
theorem need_loop (H : Has X c) {k : Int} {L0 s : D} {R : Addr → List MV → Sg → Prop} {C : Addr} (hC : ExcAt X "BadBallot" C) (hR : ∀ ρ, R C ρ σ) (ds : List D) : ∀ (a : MV), (∀ d ∈ ds, D.ok 7 d = true ∧ ∀ es, d = .tup es → es.length ≤ 1000 ∧ ∀ r ∈ es, ∀ fs, r = .lst fs → fs.length ≤ 1000) → (ds.any fun d => !isBal d k) = true →
    forR (.alt (.iff (.not_ (.call "is_ballot" [(.var 3), (.var 0)])) (.alt (.raise "BadBallot") .dead .no) .no) .dead .no) (mExecs X (n + 1 + 1 + 1) b_need_voteR_1) X (n + 1 + 1 + 1) [3] R (ds.map fun d => [d]) [.val (.int k), .val L0, .val s, a] σ := by
  induction ds with
  | nil => intro _ _ h; simp at h
  | cons d ds ih =>
    intro a hok h
    obtain ⟨hd, hl⟩ := hok d (by simp)
    rw [List.map_cons]
    unfold forR
    cases hb : isBal d k with
    | false =>
      refine .inl ?_
      simp only [ev_nil, ev_cons, E.var, E.not_, E.call, q_val, SR.alt, SR.iff, SR.raise, SR.no, cond_bool, setAll, g_z, g_s, List.set_cons_zero, List.set_cons_succ]
      refine .inl (balG H hd hl ?_)
      rw [hb]
      simp only [not_bool, if_true, Bool.not_false]
      exact .inl ⟨C, hC, hR _⟩
    | true =>
      refine .inr ⟨fun ρ' σ' => σ' = σ ∧ ρ' = [.val (.int k), .val L0, .val s, .val d], ?_, ?_⟩
      · simp only [b_need_voteR_1]
        rw [ms_cons]
        simp only [ev_nil, ev_cons, E.var, E.not_, E.call, S.iff, q_val, cond_bool, setAll, g_z, g_s, List.set_cons_zero, List.set_cons_succ, true_and, and_true, ms_nil, reduceCtorEq]
        refine balG H hd hl ?_
        rw [hb]
        simp only [not_bool, if_false, Bool.not_true, Bool.false_eq_true]
      · rintro ρ' σ' ⟨rfl, rfl⟩
        refine ih _ (fun e he => hok e (by simp [he])) ?_
        simpa [hb] using h

theorem need_raise (H : Has X c) (EX : ExcsIs X x) (F : Fit asked ds seats) {p : Str × Addr} (hp : p ∈ x.all) (hd : due asked ds seats = p.1) : RaiseSem X (n + 1 + 1 + 1 + 1) "need_vote" [asked, .lst ds, seats] σ p.2 := by
  obtain ⟨t1, h1⟩ := H.cnt.most.1
  obtain ⟨t2, h2⟩ := H.cnt.most.2.1
  have hlen := F.len
  have hx : ∀ {cn C}, (cn, C) ∈ x.all → ExcAt X cn C := fun {cn C} h => (EX.each _ h).1
  apply callR_need_vote H
  simp only [r_need_vote]
  unfold SR.alt
  cases ha : isW asked 1 12 with
  | false =>
    have e : p = (Str.ofString "BadCount", x.bc) := by
      simp only [due, ha, if_true, if_false, Bool.false_eq_true] at hd
      exact ea_bc hp hd
    subst e
    refine .inl ?_
    simp only [ev_nil, ev_cons, E.cst, E.var, E.not_, E.call, q_val, SR.iff, SR.raise, SR.no, cond_bool, g_z]
    refine ⟨_, t1, h1, ?_⟩
    refine wholeG H (noRef_ok F.asked) ?_
    rw [ha]
    simp only [not_bool, if_true, Bool.not_false]
    exact .inl ⟨_, hx hp, rfl⟩
  | true =>
    obtain ⟨k, rfl, hk0, hk1⟩ := isW_int ha
    refine .inr ?_
    simp only [ev_nil, ev_cons, E.cst, E.var, E.cmp, E.not_, E.call, E.bi, It.seq, S.iff, q_val, q_one, SR.iff, SR.raise, SR.no, SR.for_, cond_bool, f_len, g_z, g_s, ln_1, true_and, ms_nil]
    refine ⟨_, t1, h1, ?_⟩
    refine wholeG H (noRef_ok F.asked) ?_
    rw [ha]
    simp only [not_bool, if_false, Bool.not_true, Bool.false_eq_true]
    cases hs : isW seats 1 k with
    | false =>
      have e : p = (Str.ofString "BadSeats", x.bs) := by
        simp only [due, ha, toI, hs, if_true, if_false, Bool.false_eq_true] at hd
        exact ea_bs hp hd
      subst e
      refine .inl ?_
      refine wholeG H (noRef_ok F.seats) ?_
      rw [hs]
      simp only [not_bool, if_true, Bool.not_false]
      exact .inl ⟨_, hx hp, rfl⟩
    | true =>
      refine .inr ?_
      refine wholeG H (noRef_ok F.seats) ?_
      rw [hs]
      simp only [not_bool, if_false, Bool.not_true, Bool.false_eq_true]
      by_cases hl : 40 < ds.length
      · have e : p = (Str.ofString "TooMany", x.tm) := by
          simp only [due, ha, toI, hs, if_true, if_pos hl, if_true, if_false, Bool.false_eq_true] at hd
          exact ea_tm hp hd
        subst e
        refine .inl ⟨by first | with_reducible exact oo3 ‹_› | omega, _, t2, h2, ?_⟩
        simp only [c_gt, decide_eq_true_eq]
        rw [if_pos (by omega)]
        exact .inl ⟨_, hx hp, rfl⟩
      · refine .inr ⟨by first | with_reducible exact oo3 ‹_› | omega, _, t2, h2, ?_⟩
        simp only [c_gt, decide_eq_true_eq]
        rw [if_neg (by omega)]
        have hb : (ds.any fun d => !isBal d k) = true := by
          cases hb : (ds.any fun d => !isBal d k) with
          | true => rfl
          | false =>
            simp only [due, ha, toI, hs, if_true, if_neg hl, hb, if_false, Bool.false_eq_true] at hd
            exact (ea_no hp hd).elim
        have e : p = (Str.ofString "BadBallot", x.bb) := by
          simp only [due, ha, toI, hs, if_true, if_neg hl, hb, if_true, if_false, Bool.false_eq_true] at hd
          exact ea_bb hp hd
        subst e
        refine .inl ?_
        exact need_loop H (hx hp) (fun xx => rfl) ds _ F.each hb

theorem init_raise (H : Has X c) (EX : ExcsIs X x) (F : Fit asked ds seats) {p : Str × Addr} (hp : p ∈ x.all) (hd : due asked ds seats = p.1) {a : Addr} : RaiseA X (n + 1 + 1 + 1 + 1 + 1) (.ref c.init) [.ref a, asked, .lst ds, seats] σ p.2 := by
  apply callR_Count_init H
  simp only [r_Count_init]
  simp only [ev_nil, ev_cons, E.var, q_val, SR.alt, SR.expr, SR.no, ER.call, g_z, g_s]
  exact .inl ⟨_, need_raise H EX F hp hd, rfl⟩
theorem make_raise (H : Has X c) (EX : ExcsIs X x) (F : Fit asked ds seats) {p : Str × Addr} (hp : p ∈ x.all) (hd : due asked ds seats = p.1) :
    ∃ C f k, X.mg "Count" = some (.ref C) ∧ MakeAt X C f ∧ n + 1 + 1 + 1 + 1 + 1 + 1 = k + 1 ∧ ∀ a dx, a ≠ dx → σ a = none → σ dx = none → RaiseA X k (.ref f) [.ref a, asked, .lst ds, seats] ((σ.put dx (.ns [])).put a (.inst C dx)) p.2 :=
  ⟨c.C, c.init, _, H.cnt.mg, H.cnt.made, rfl, fun xx xx xx xx xx => init_raise H EX F hp hd⟩
theorem rounds_raise (H : Has X c) (EX : ExcsIs X x) (F : Fit asked ds seats) {p : Str × Addr} (hp : p ∈ x.all) (hd : due asked ds seats = p.1) : RaiseSem X (n + 1 + 1 + 1 + 1 + 1 + 1 + 1) "rounds_of" [asked, .lst ds, seats] σ p.2 := by
  apply callR_rounds_of H
  simp only [r_rounds_of]
  simp only [ev_nil, ev_cons, E.var, q_val, SR.alt, SR.expr, SR.no, ER.make, g_z, g_s]
  exact .inl ⟨_, make_raise H EX F hp hd, rfl⟩
theorem seats_raise (H : Has X c) (EX : ExcsIs X x) (F : Fit asked ds seats) {p : Str × Addr} (hp : p ∈ x.all) (hd : due asked ds seats = p.1) : RaiseSem X (n + 1 + 1 + 1 + 1 + 1 + 1 + 1) "seats_of" [asked, .lst ds, seats] σ p.2 := by
  apply callR_seats_of H
  simp only [r_seats_of]
  simp only [ev_nil, ev_cons, E.var, q_val, SR.alt, SR.expr, SR.no, ER.make, g_z, g_s]
  exact .inl ⟨_, make_raise H EX F hp hd, rfl⟩
end
end L04
namespace L04
theorem isRow_of {k : Nat} {row : List Int} (h : RowOk k row) : isRow (.lst (row.map D.int)) k = true := by
  have e : (row.map D.int).map toI = row := by rw [List.map_map]; exact List.map_id'' (fun xx => rfl) row
  simp only [isRow, Bool.and_eq_true, decide_eq_true_eq, e, List.all_eq_true]
  refine ⟨fun x hx => ?_, h.nd⟩
  obtain ⟨i, hi, rfl⟩ := List.mem_map.mp hx
  have := h.inn i hi
  simp [isW]; omega
theorem of_isRow {k : Nat} {d : D} (h : isRow d k = true) : ∃ row, d = .lst (row.map D.int) ∧ RowOk k row := by
  cases d with
  | lst ds =>
    simp only [isRow, Bool.and_eq_true, decide_eq_true_eq, List.all_eq_true] at h
    have e := ints_of h.1
    refine ⟨ds.map toI, by rw [← e], h.2, fun i hi => ?_⟩
    obtain ⟨d, hd, rfl⟩ := List.mem_map.mp hi
    obtain ⟨j, rfl, h0, h1⟩ := isW_int (h.1 d hd)
    simp only [toI]; omega
  | _ => cases h
theorem of_isBal {k : Nat} {d : D} (h : isBal d k = true) : ∃ b : Int × List Int, d = .tup [.int b.1, .lst (b.2.map D.int)] ∧ (1 ≤ b.1 ∧ b.1 ≤ 1000000000) ∧ RowOk k b.2 := by
  unfold isBal at h
  split at h
  · simp only [Bool.and_eq_true] at h
    obtain ⟨i, rfl, h0, h1⟩ := isW_int h.1
    obtain ⟨row, rfl, hr⟩ := of_isRow h.2
    exact ⟨(i, row), rfl, ⟨h0, h1⟩, hr⟩
  · cases h
theorem of_bals {k : Nat} : ∀ {ds : List D}, (∀ d ∈ ds, isBal d k = true) → ∃ B, ds = dB B ∧ (∀ b ∈ B, 1 ≤ b.1 ∧ b.1 ≤ 1000000000) ∧ ∀ b ∈ B, RowOk k b.2
  | [], _ => ⟨[], rfl, by simp, by simp⟩
  | d :: ds, h => by
    obtain ⟨b, rfl, h1, h2⟩ := of_isBal (h d (by simp))
    obtain ⟨B, rfl, h3, h4⟩ := of_bals fun e he => h e (List.mem_cons_of_mem _ he)
    exact ⟨b :: B, rfl, fun y hy => by rcases List.mem_cons.mp hy with rfl | hy; exact h1; exact h3 y hy, fun y hy => by rcases List.mem_cons.mp hy with rfl | hy; exact h2; exact h4 y hy⟩
theorem due_ok {asked seats : D} {ds : List D} (h : due asked ds seats = "") : ∃ (k : Nat) (s : Int) (B : List (Int × List Int)), asked = .int k ∧ seats = .int s ∧ ds = dB B ∧ Bal k B ∧ 1 ≤ k ∧ k ≤ 12 ∧ 1 ≤ s ∧ s ≤ k := by
  unfold due at h
  by_cases ha : isW asked 1 12 = true
  · rw [if_pos ha] at h
    obtain ⟨i, rfl, h0, h1⟩ := isW_int ha
    by_cases hs : isW seats 1 (toI (.int i)) = true
    · rw [if_pos hs] at h
      obtain ⟨s, rfl, s0, s1⟩ := isW_int hs
      have s1 : s ≤ i := s1
      by_cases hl : 40 < ds.length
      · rw [if_pos hl] at h; exact absurd h (by decide)
      · rw [if_neg hl] at h
        by_cases hb : (ds.any fun d => !isBal d (toI (.int i))) = true
        · rw [if_pos hb] at h; exact absurd h (by decide)
        · have e : ((i.toNat : Nat) : Int) = i := Int.toNat_of_nonneg (by first | with_reducible exact oop ‹_› | omega)
          obtain ⟨B, rfl, b1, b2⟩ := of_bals (k := i.toNat) (ds := ds) fun d hd => by
            rw [e]
            cases q : isBal d i with
            | true => rfl
            | false => exact absurd (List.any_eq_true.mpr ⟨d, hd, by simp [toI, q]⟩) hb
          exact ⟨i.toNat, s, B, by rw [e], rfl, rfl, ⟨by simpa [dB] using hl, b1, b2⟩, by omega, by omega, s0, by omega⟩
    · rw [if_neg hs] at h; exact absurd h (by decide)
  · rw [if_neg ha] at h; exact absurd h (by decide)
theorem due_bad {x : EA} {asked seats : D} {ds : List D} (h : due asked ds seats ≠ "") : ∃ p ∈ x.all, due asked ds seats = p.1 := by
  unfold due at h ⊢
  by_cases h1 : isW asked 1 12 = true
  · rw [if_pos h1] at h ⊢
    by_cases h2 : isW seats 1 (toI asked) = true
    · rw [if_pos h2] at h ⊢
      by_cases h3 : 40 < ds.length
      · rw [if_pos h3]; exact ⟨_, .tail _ (.tail _ (.head _)), rfl⟩
      · rw [if_neg h3] at h ⊢
        by_cases h4 : (ds.any fun d => !isBal d (toI asked)) = true
        · rw [if_pos h4]; exact ⟨_, .tail _ (.tail _ (.tail _ (.head _))), rfl⟩
        · rw [if_neg h4] at h; exact absurd rfl h
    · rw [if_neg h2]; exact ⟨_, .tail _ (.head _), rfl⟩
  · rw [if_neg h1]; exact ⟨_, .head _, rfl⟩

section
variable {X : Cx} {c : CA} (H : Has X c)
include H
theorem hasCell : HasCell X := fun hl h0 h1 q => call_law_cell H (cell_spec hl h0 h1 q)
theorem hasWeight : HasWeight X := fun h0 h1 q => call_law_weight H (weight_spec h0 h1 q)
theorem hasRow : HasRow X := fun hk q => call_law_row H (row_spec hk q)
theorem hasBal : HasBal X := fun hl hk q => call_law_ballots H (ballots_spec (hasCell H) (hasWeight H) (hasRow H) hl hk q)
theorem hasAllw : HasAllw X := fun hB q => call_all_weights H (allw_spec hB q)
theorem hasQuota : HasQuota X := fun hB h0 h1 q => call_quota H (quota_spec (hasAllw H) hB h0 h1 q)
theorem hasPlaceT : HasPlaceT X := fun q => call_place_of H (placeT_spec q)
theorem hasHeld : HasHeld X := fun hk hin q => call_held H (held_spec hk hin q)
theorem hasMost : HasMost X := fun hl hst q => call_most_held H (most_spec hl hst q)
theorem hasLeast : HasLeast X := fun hl hst q => call_least_held H (least_spec hl hst q)
theorem hasDeed : HasDeed X := fun hl hsl hst q => call_deed_of H (deed_spec (hasMost H) (hasLeast H) hl hsl hst q)
theorem hasParts : HasParts X := fun hl hw hs q => call_parts H (parts_spec hl hw hs q)
theorem hasWhole3 : HasWhole3 X := fun h0 h1 q => wholeG H (fun xx e => by cases e) (by rw [show isW (.int _) _ _ = true from by simp [isW, h0, h1]]; exact q)
theorem hasIsBallot : HasIsBallot X := fun {n σ k b Q} hk h0 h1 hr q => by
  have hlen := hr.len
  refine balG H ?_ (fun ds e => ?_) ?_
  · simp only [D.ok, List.all_cons, List.all_nil, Bool.and_true, Bool.true_and]
    exact List.all_eq_true.mpr fun d hd => by obtain ⟨i, _, rfl⟩ := List.mem_map.mp hd; rfl
  · cases e
    refine ⟨by simp, fun r hr' es e => ?_⟩
    simp only [List.mem_cons, List.not_mem_nil, or_false] at hr'
    rcases hr' with rfl | rfl
    · cases e
    · cases e; simp; (first | with_reducible exact ooc ‹_› ‹_› | omega)
  · have : isBal (.tup [.int b.1, .lst (b.2.map D.int)]) k = true := by
      simp only [isBal, Bool.and_eq_true]
      exact ⟨by simp [isW, h0, h1], isRow_of hr⟩
    rw [this]; exact q
theorem hasNeed : HasNeed X := fun hk0 hk hs0 hs hB q => call_need_vote H (need_vote_spec (hasWhole3 H) (hasIsBallot H) H.cnt.most.1 H.cnt.most.2.1 hk0 hk hs0 hs hB q)
theorem hasPlaces : HasPlaces X c := fun h hs hl hB q => call_Count_places H (places_spec (hasPlaceT H) H.cnt h hs hl hB q)
theorem hasLeft : HasLeft X c := fun h hs hl hll q => call_Count_left H (left_spec H.cnt h hs hl hll q)
theorem hasSeats : HasSeats X c := fun h hs hl hf hb q => call_Count_seats H (seats_spec H.cnt h hs hl hf hb q)
theorem hasStep : HasStep X c := fun h hs hl hk hB hs0 hs1 hr hg q0 q1 => call_Count_step H (step_spec (hasPlaces H) (hasHeld H) (hasDeed H) (hasParts H) H.cnt h hs hl hk hB hs0 hs1 hr hg q0 q1)
theorem hasInit : HasInit X c := fun ha hd hk0 hk hs0 hs hB q => call_Count_init H (init_spec (hasNeed H) (hasQuota H) H.cnt ha hd hk0 hk hs0 hs hB q)
theorem hasRounds : HasRounds X := fun hk0 hk hs0 hs hB q => call_rounds_of H (rounds_spec (hasInit H) (hasPlaces H) (hasLeft H) (hasStep H) H.cnt hk0 hk hs0 hs hB q)
theorem hasSeatsOf : HasSeatsOf X := fun hk0 hk hs0 hs hB q => call_seats_of H (seats_of_spec (hasInit H) (hasSeats H) (hasStep H) H.cnt hk0 hk hs0 hs hB q)
end
section
variable {X : Cx} {c : CA} {n : Nat} {x : EA} {asked seats : D} {ds : List D}
theorem word_step {e C : Addr} {cn : Str} {b : Bool} {ws : List D} {ss : List S} {Q : Fl → List MV → Sg → Prop} (eo : ExcObj X.g e C) (hi : IsaAt X C cn b) (hl : ws.length ≤ 100) (h : mExecs X n ss [.val (.ref e), .mt (if b = true then ws ++ [.str cn] else ws)] empS Q) :
    mExecs X n (.iff (.isA (.var 0) cn) [.app 1 (.cst (.str cn))] [] :: ss) [.val (.ref e), .mt ws] empS Q := by
  rw [ms_cons]
  simp only [E.var, S.iff, q_val, E.isA, cond_bool, g_z, ms_nil]
  refine ⟨e, C, b, rfl, eo, hi, ?_⟩
  cases b with
  | true =>
    rw [if_pos rfl, ms_cons]
    simp only [E.cst, S.app, q_mt, g_z, g_s, List.set_cons_zero, List.set_cons_succ, ms_nil]
    exact ⟨by first | with_reducible exact oo3 ‹_› | omega, h⟩
  | false =>
    rw [if_neg (by simp)]
    exact h
theorem word_core {e C : Addr} {b1 b2 b3 b4 : Bool} {w : Str} {Q : D → Sg → Prop} (eo : ExcObj X.g e C) (h1 : IsaAt X C "BadCount" b1) (h2 : IsaAt X C "BadSeats" b2) (h3 : IsaAt X C "TooMany" b3) (h4 : IsaAt X C "BadBallot" b4) (hv : ValAt X C)
    (hw : (b1, b2, b3, b4, w) ∈ [(true, false, false, false, Str.ofString "BadCount"), (false, true, false, false, Str.ofString "BadSeats"), (false, false, true, false, Str.ofString "TooMany"), (false, false, false, true, Str.ofString "BadBallot")]) (q : Q (.str w) empS) :
    mExecs X n m_law_word [.val (.ref e), .unb] empS (fun fl xx σ' => (∀ b, empS b ≠ none → σ' b ≠ none) ∧ Q (flD fl) σ') := by
  simp only [m_law_word]
  rw [ms_cons]
  simp only [ev_nil, L.disp, S.asgM, flD, List.set_cons_zero, List.set_cons_succ, ln_0]
  refine ⟨by first | with_reducible exact Nat.zero_le _ | omega, ?_⟩
  refine word_step eo h1 (by simp) (word_step eo h2 (by split <;> simp) (word_step eo h3 (by split <;> split <;> simp) (word_step eo h4 (by split <;> split <;> split <;> simp) ?_)))
  have fin : mExecs X n [.iff (.or_ (.cmp .ne (.lenM 1) (.cst (.int 1))) (.not_ (.isV (.var 0)))) [.ret (.cst (.str "more"))] [], .ret (.borrow [1] (.idx (.var 1) (.cst (.int 0))))] [.val (.ref e), .mt [.str w]] empS (fun fl xx σ' => (∀ b, empS b ≠ none → σ' b ≠ none) ∧ Q (flD fl) σ') := by
    rw [ms_cons]
    simp only [E.cst, E.var, E.cmp, E.or_, E.not_, S.iff, q_val, q_mt, E.lenM, E.isV, c_ne, cond_bool, not_bool, flD, g_z, g_s, ln_1, decide_eq_true_eq, ms_nil, if_true, if_false, Bool.not_true, Bool.false_eq_true]
    refine ⟨by omega, ?_⟩
    rw [if_neg (by omega)]
    refine ⟨e, C, rfl, eo, hv, ?_⟩
    rw [ms_cons]
    simp only [E.cst, E.var, E.idx, E.borrow, S.ret, q_val, q_ll, i_0, keepS, frzAll, g_z, g_s, List.set_cons_zero, List.set_cons_succ, true_and, ms_nil]
    exact q
  simp only [List.mem_cons, List.not_mem_nil, or_false, Prod.mk.injEq] at hw
  rcases hw with ⟨rfl, rfl, rfl, rfl, rfl⟩ | ⟨rfl, rfl, rfl, rfl, rfl⟩ | ⟨rfl, rfl, rfl, rfl, rfl⟩ | ⟨rfl, rfl, rfl, rfl, rfl⟩ <;> exact fin
theorem word_hot (H : Has X c) (EX : ExcsIs X x) {p : Str × Addr} (hp : p ∈ x.all) {h : Heap} {e : Addr} (hk : ∀ b o, X.g.get? b = some o → h.get? b = some o) (eo : ExcObj h e p.2) : CallSem (X.hot h) (n + 1) "_law_word" [.ref e] empS fun d xx => d = .str p.1 := by
  obtain ⟨_, _, hv, hi⟩ := EX.each p hp
  have hi' : ∀ q ∈ x.all, IsaAt (X.hot h) p.2 q.1 (q.2 == p.2) := fun q hq => (hi q hq).hot hk
  have nd := EX.nd
  simp only [EA.all, List.map_cons, List.map_nil, List.nodup_cons, List.mem_cons, List.not_mem_nil, or_false, not_or, not_false_eq_true, and_true] at nd
  obtain ⟨⟨n1, n2, n3⟩, ⟨n4, n5⟩, n6, _⟩ := nd
  refine call_law_word (X := X.hot h) (n := n) (d0 := .ref e) (σ := empS) (Q := fun d xx => d = .str p.1) (H.gnd.hot hk) (H.law_word_is.hot hk) ?_
  refine word_core (X := X.hot h) (Q := fun d xx => d = .str p.1) (w := p.1) eo (hi' _ (.head _)) (hi' _ (.tail _ (.head _))) (hi' _ (.tail _ (.tail _ (.head _)))) (hi' _ (.tail _ (.tail _ (.tail _ (.head _))))) (hv.hot hk) ?_ rfl
  simp only [EA.all, List.mem_cons, List.not_mem_nil, or_false] at hp
  have f : ∀ {a b : Addr}, ¬ a = b → (a == b) = false := fun h => beq_eq_false_iff_ne.mpr h
  rcases hp with rfl | rfl | rfl | rfl
  · dsimp only; rw [beq_self_eq_true, f (Ne.symm n1), f (Ne.symm n2), f (Ne.symm n3)]; exact .head _
  · dsimp only; rw [f n1, beq_self_eq_true, f (Ne.symm n4), f (Ne.symm n5)]; exact .tail _ (.head _)
  · dsimp only; rw [f n2, f n4, beq_self_eq_true, f (Ne.symm n6)]; exact .tail _ (.tail _ (.head _))
  · dsimp only; rw [f n3, f n5, f n6, beq_self_eq_true]; exact .tail _ (.tail _ (.tail _ (.head _)))

theorem told_bad (H : Has X c) (EX : ExcsIs X x) (F : Fit asked ds seats) {w : Int} {p : Str × Addr} (hp : p ∈ x.all) (hd : due asked ds seats = p.1) : CallX X (n + 1 + 1 + 1 + 1 + 1 + 1 + 1 + 1) "_law_told" [.int w, asked, .lst ds, seats] fun d => d = .str p.1 := by
  intro a ha A s Φ vs l hr hf hl ok r
  obtain ⟨a', h1, hfn⟩ : FnIs X "_law_told" c_law_told ["_law_which", "_law_candidates_here", "_law_ballots_here", "_law_seats"] (fnBody (stmtAt P 45)) := sq_law_told ▸ bq_law_told ▸ H.law_told_is
  rw [ha] at h1; cases h1
  refine codeAny_mono (call_caught (n := n + 1 + 1 + 1 + 1 + 1 + 1 + 1) (m := r_law_told) (i := 4) (x := "_law_error") (vn := "VoteError") (wn := "_law_word") (V := x.V) (W := fun xx => p.1) H.gnd hfn (ScOk.of sc_law_told) (okR_law_told H) rfl
    (by kernel_rfl) (by kernel_rfl) (by kernel_rfl) (by kernel_rfl) (by kernel_rfl) EX.vote (by kernel_rfl) (by kernel_rfl) H.law_word_is.isFn (fun k => rfl) ?_ hr hf hl ok r) ?_
  · have fin : (empS = empS) ∧ Under X x.V p.2 ∧ ∀ h e, (∀ b o, X.g.get? b = some o → h.get? b = some o) → ExcObj h e p.2 → CallSem (X.hot h) (n + 1 + 1 + 1 + 1 + 1 + 1 + 1) "_law_word" [.ref e] empS fun d xx => d = .str p.1 :=
      ⟨rfl, (EX.each p hp).2.1, fun h e hk eo => word_hot H EX hp hk eo⟩
    show r_law_told X _ [.val (.int w), .val asked, .val (.lst ds), .val seats, .unb] _ _
    simp only [r_law_told]
    simp only [ev_nil, ev_cons, E.cst, E.var, E.cmp, q_val, SR.alt, SR.iff, SR.expr, SR.no, ER.call, ER.make, c_eq, cond_bool, g_z, g_s, true_and, decide_eq_true_eq]
    refine .inl ?_
    by_cases h0 : w = 0
    · rw [if_pos h0]
      exact .inl ⟨p.2, make_raise H EX F hp hd, fin.2⟩
    · rw [if_neg h0]
      refine .inl ?_
      by_cases h1 : w = 1
      · rw [if_pos h1]
        exact .inl ⟨p.2, rounds_raise H EX F hp hd, fin.2⟩
      · rw [if_neg h1]
        exact .inl ⟨p.2, seats_raise H EX F hp hd, fin.2⟩
  · rintro r s' ⟨C, t, rfl, hs, _, k, u⟩
    exact ⟨_, .str p.1, rfl, fun Φ => .str _ t, rfl, hs, k, u⟩

theorem told_ok (H : Has X c) {k : Nat} {B : List (Int × List Int)} {s w : Int} (hk0 : 1 ≤ k) (hk : k ≤ 12) (hs0 : 1 ≤ s) (hs : s ≤ k) (hB : Bal k B) {Q : D → Sg → Prop} (q : ∀ σ, Q (.str "") σ) :
    CallSem X (n + 1 + 1 + 1 + 1 + 1 + 1 + 1 + 1) "_law_told" [.int w, .int k, .lst (dB B), .int s] empS Q := by
  apply call_law_told H
  simp only [m_law_told]
  rw [ms_cons]
  simp only [Mine.S.try_, flD]
  rw [ms_cons]
  simp only [E.cst, E.var, E.cmp, S.iff, q_val, c_eq, cond_bool, g_z, decide_eq_true_eq, ms_nil]
  by_cases h0 : w = 0
  · rw [if_pos h0, ms_cons]
    simp only [ev_nil, ev_cons, E.var, S.expr, q_val, E.make, g_z, g_s, ms_nil]
    refine x_make (n := n + 1) (hasInit H) H.cnt hk0 hk hs0 hs hB fun σ' a dx b h1 k1 => ?_
    rw [ms_cons]
    simp only [E.cst, S.ret, ms_nil]
    exact ⟨k1, q _⟩
  · rw [if_neg h0, ms_cons]
    simp only [E.cst, E.var, E.cmp, S.iff, q_val, c_eq, cond_bool, g_z, decide_eq_true_eq, ms_nil]
    by_cases h1 : w = 1
    · rw [if_pos h1, ms_cons]
      simp only [ev_nil, ev_cons, E.var, E.call, S.expr, q_val, g_z, g_s, ms_nil]
      refine hasRounds H hk0 hk hs0 hs hB fun σ' l st xx xx k1 => ?_
      rw [ms_cons]
      simp only [E.cst, S.ret, ms_nil]
      exact ⟨k1, q _⟩
    · rw [if_neg h1, ms_cons]
      simp only [ev_nil, ev_cons, E.var, E.call, S.expr, q_val, g_z, g_s, ms_nil]
      refine hasSeatsOf H hk0 hk hs0 hs hB fun σ' l st xx xx k1 => ?_
      rw [ms_cons]
      simp only [E.cst, S.ret, ms_nil]
      exact ⟨k1, q _⟩
theorem told_spec (H : Has X c) (EX : ExcsIs X x) (F : Fit asked ds seats) {w : Int} : CallX X (n + 1 + 1 + 1 + 1 + 1 + 1 + 1 + 1) "_law_told" [.int w, asked, .lst ds, seats] fun d => d = .str (due asked ds seats) := by
  by_cases h : due asked ds seats = ""
  · obtain ⟨k, s, B, rfl, rfl, rfl, hB, hk0, hk, hs0, hs⟩ := due_ok h
    rw [h]
    exact .of_sem (told_ok H hk0 hk hs0 hs hB fun xx => ⟨rfl, rfl⟩)
  · obtain ⟨p, hp, e⟩ := due_bad (x := x) h
    rw [e]
    exact told_bad H EX F hp e
end
end L04
namespace L04
noncomputable def fit1 (d : D) : Prop := D.ok 7 d = true ∧ ∀ es, d = .tup es → es.length ≤ 1000 ∧ ∀ r ∈ es, ∀ fs, r = .lst fs → fs.length ≤ 1000
noncomputable def odd1 (d : D) : Prop := D.ok 3 d = true ∧ (∀ es, d ≠ .tup es) ∧ ∀ fs, d = .lst fs → fs.length ≤ 1000
theorem filt_nil {ds : List D} {p : D → Bool} : (ds.filter p).isEmpty = !ds.any p := by
  induction ds with
  | nil => rfl
  | cons d ds ih => rw [List.filter_cons, List.any_cons]; cases p d <;> simp [ih]
theorem map_self {ds : List D} : ds.map (fun x => x) = ds := by simp
theorem ok_filt {n : Nat} {ds : List D} {p : D → Bool} (h : ∀ d ∈ ds, D.ok n d = true) : D.ok (n + 1) (.lst (ds.filter p)) = true := by
  simp only [D.ok, List.all_eq_true]
  exact fun d hd => h d (List.mem_filter.mp hd).1

theorem ok_one : D.ok 3 (.str "1") = true := by decide +kernel
section
variable {X : Cx} {c : CA} {n : Nat} {σ : Sg}
inductive EvAll (X : Cx) (n : Nat) (ρ : List MV) (σ : Sg) : List E → List D → Prop
  | nil : EvAll X n ρ σ [] []
  | cons {e : E} {d : D} {es : List E} {ds : List D} : (∀ Q : D → Sg → Prop, Q d σ → e X n ρ σ Q) → EvAll X n ρ σ es ds → EvAll X n ρ σ (e :: es) (d :: ds)
theorem EvAll.of {ρ : List MV} {es : List E} {ds : List D} (h : EvAll X n ρ σ es ds) : ∀ {Q : List D → Sg → Prop}, Q ds σ → mEvals X n es ρ σ Q := by
  induction h with
  | nil => exact fun q => q
  | cons h _ ih => exact fun q => h _ (ih q)
theorem pick {ρ : List MV} {es : List E} {ds : List D} {e : E} {k : Int} {Q : D → Sg → Prop} (h : EvAll X n ρ σ es ds) (hl : ds.length ≤ 1000) (he : ∀ Q : D → Sg → Prop, Q (.int k) σ → e X n ρ σ Q) (h0 : 0 ≤ k) (h1 : k < ds.length) (q : ∀ d ∈ ds, Q d σ) : E.idx (.lst (.disp es)) e X n ρ σ Q := by
  refine h.of ⟨by first | with_reducible exact oo3 ‹_› | omega, he _ ?_⟩
  have hk : k.toNat < ds.length := by omega
  exact ⟨h0, by omega, ds[k.toNat], List.getElem?_eq_getElem hk, q _ (List.getElem_mem hk)⟩
theorem ret_one {ρ : List MV} {e : E} {Q : Fl → List MV → Sg → Prop} (h : e X n ρ σ fun d σ => Q (.ret d) ρ σ) : mExecs X n [.ret e] ρ σ Q := h
theorem strange_spec (H : Has X c) {i lo hi : Int} {Q : D → Sg → Prop} (q : ∀ d, odd1 d → Q d σ) : CallSem X (n + 1) "_law_strange" [.int i, .int lo, .int hi] σ Q := by
  have at1 : ∀ d : D, D.atom d = true → D.ok 3 d = true → odd1 d := fun d ha ho => ⟨ho, (fun es e => by subst e; cases ha), fun fs e => by subst e; cases ha⟩
  apply call_law_strange H
  simp only [m_law_strange]
  rw [ms_cons]
  change (9 : Int) ≠ 0 ∧ small 9 ∧ (small (i.fdiv 9) ∨ small 48271) ∧ (1000000007 : Int) ≠ 0 ∧ mExecs X n [.ret _] [.val (.int i), .val (.int lo), .val (.int hi), .val (.int ((i.fdiv 9 * 48271).fmod 1000000007))] σ _
  refine ⟨by decide, ⟨by decide, by decide⟩, .inr ⟨by decide, by decide⟩, by decide, ?_⟩
  generalize (i.fdiv 9 * 48271).fmod 1000000007 = far
  refine ret_one ?_
  refine pick (k := i.fmod 9) (ds := [.int (lo - 1), .int (hi + 1), .bool true, .bool false, .str "1", .none, .lst [.int 1], .int (lo - 1 - far), .int (hi + 1 + far)])
    (.cons (fun xx q => q) (.cons (fun xx q => q) (.cons (fun xx q => q) (.cons (fun xx q => q) (.cons (fun xx q => q) (.cons (fun xx q => q) (.cons (fun xx q => ⟨by decide, q⟩) (.cons (fun xx q => q) (.cons (fun xx q => q) .nil))))))))) (by simp) (fun xx q => ⟨by decide, q⟩)
    (Int.fmod_nonneg_of_pos i (by decide)) (Int.fmod_lt_of_pos i (by decide)) ?_
  intro d hd
  refine ⟨fun xx h => h, q d ?_⟩
  simp only [List.mem_cons, List.not_mem_nil, or_false] at hd
  rcases hd with rfl | rfl | rfl | rfl | rfl | rfl | rfl | rfl | rfl
  · exact at1 _ rfl rfl
  · exact at1 _ rfl rfl
  · exact at1 _ rfl rfl
  · exact at1 _ rfl rfl
  · exact at1 _ rfl ok_one
  · exact at1 _ rfl rfl
  · exact ⟨rfl, (fun es e => by cases e), fun fs e => by cases e; decide⟩
  · exact at1 _ rfl rfl
  · exact at1 _ rfl rfl

theorem is_spec (H : Has X c) {d : D} {lo hi : Int} {Q : D → Sg → Prop} (hd : ∀ a, d ≠ .ref a) (q : Q (.bool (isW d lo hi)) σ) : CallSem X (n + 1 + 1) "_law_is" [d, .int lo, .int hi] σ Q := by
  apply call_law_is H
  simp only [m_law_is]
  rw [ms_cons]
  simp only [ev_nil, ev_cons, E.var, E.cmp, E.and_, E.call, S.ret, q_val, cond_bool, flD, g_z, g_s, ms_nil]
  apply call_law_whole H
  simp only [m_law_whole, M.whole]
  rw [ms_cons]
  cases d with
  | ref a => exact absurd rfl (hd a)
  | int i =>
    simp only [ev_nil, ev_cons, E.var, E.and_, E.not_, E.bi, S.ret, q_val, c_le, cond_bool, not_bool, f_isint, f_isbool, keepS, flD, g_z, true_and, decide_eq_true_eq, ms_nil, if_true, if_false, Bool.not_false, Bool.false_eq_true]
    by_cases h : lo ≤ i
    · rw [if_pos h]; simpa [isW, h] using q
    · rw [if_neg h]; simpa [isW, h] using q
  | _ => exact ⟨fun xx h => h, fun xx h => h, q⟩

set_option tactic.hygienic true in
theorem good_spec (H : Has X c) {d : D} {k : Int} {Q : D → Sg → Prop} (hd : fit1 d) (q : Q (.bool (isBal d k)) σ) : CallSem X (n + 1 + 1 + 1) "_law_good" [d, .int k] σ Q := by
  obtain ⟨hd, hl⟩ := hd
  apply call_law_good H
  simp only [m_law_good]
  rw [ms_cons]
  cases d with
  | ref a => cases hd
  | tup ds =>
    have hlen := (hl ds rfl).1
    simp only [D.ok, List.all_eq_true] at hd
    simp only [ev_nil, ev_cons, E.cst, E.var, E.cmp, E.or_, E.not_, E.bi, S.iff, q_val, c_ne, cond_bool, not_bool, f_lenT, f_istup, flD, g_z, decide_eq_true_eq, ms_nil, if_true, if_false, Bool.not_true, Bool.false_eq_true]
    refine ⟨by first | with_reducible exact oo3 ‹_› | omega, ?_⟩
    by_cases h2 : ds.length = 2
    · rw [if_neg (by simp [h2])]
      match ds, h2, hd, hl, q with
      | [w, r], _, hd, hl, q =>
        have okr := hd r (by simp)
        rw [ms_cons]
        simp only [ev_nil, ev_cons, E.cst, E.var, E.or_, E.not_, E.idx, E.call, E.bi, S.iff, q_val, cond_bool, t_0, t_1, g_z, ms_nil, if_true]
        refine is_spec H (noRef_ok (hd w (by simp))) ?_
        simp only [not_bool, Bool.not_eq_true']
        cases hw : isW w 1 1000000000 with
        | false =>
          simp only [if_true]
          rw [ms_cons]
          simp only [E.cst, S.ret, keepS, true_and, ms_nil]
          simpa [isBal, hw] using q
        | true =>
          simp only [if_false, reduceCtorEq]
          cases r with
          | ref a => cases okr
          | lst es =>
            have hes := (hl _ rfl).2 _ (by simp) es rfl
            simp only [D.ok, List.all_eq_true] at okr
            simp only [not_bool, f_islist, if_false, Bool.not_true, Bool.false_eq_true]
            rw [ms_cons]
            simp only [ev_nil, E.cst, E.var, E.cmp, E.lst, E.idx, L.disp, L.comp, It.seq, S.iff, q_val, q_one, cond_bool, t_1, g_z, ln_0, ln_1, List.length_map, ms_nil]
            refine ⟨by first | with_reducible exact oo3 ‹_› | omega, ?_⟩
            refine comp_l (fun d => [d]) (fun x => !isW x 0 (k - 1)) (fun x => x) es (fun y hy K hK => ?_) (fun y hy xx K hK => ?_) ?_
            · simp only [p_law_good_1]
              simp only [ev_nil, ev_cons, cd_some, E.cst, E.var, E.bin, E.not_, E.call, q_val, b_sub, setAll, g_z, g_s, List.set_cons_zero, List.set_cons_succ]
              refine is_spec H (noRef_ok (okr y hy)) ?_
              simp only [not_bool]
              exact hK
            · simp only [e_law_good_1]
              simp only [E.var, q_val, setAll, g_z, g_s, List.set_cons_zero, List.set_cons_succ]
              exact hK
            rw [map_self]
            refine ⟨by decide, ?_⟩
            rw [c_nex, eqv_nil, filt_nil]
            refine ⟨ok_filt fun d hd => ok_mono (by decide) (okr d hd), rfl, ?_⟩
            by_cases ha : (es.any fun x => !isW x 0 (k - 1)) = true
            · rw [ha]
              simp only [if_true, Bool.not_true, Bool.not_false]
              rw [ms_cons]
              simp only [E.cst, S.ret, keepS, true_and, ms_nil]
              have : isBal (.tup [w, .lst es]) k = false := by
                simp only [isBal, isRow, Bool.and_eq_false_iff]
                refine .inr (.inl ?_)
                obtain ⟨y, hy, h⟩ := List.any_eq_true.mp ha
                exact List.all_eq_false.mpr ⟨y, hy, by simpa using h⟩
              rw [this] at q; exact q
            · rw [Bool.eq_false_iff.mpr ha]
              simp only [if_false, Bool.not_true, Bool.not_false, Bool.false_eq_true]
              have hall : ∀ y ∈ es, isW y 0 (k - 1) = true := fun y hy => by
                cases e : isW y 0 (k - 1) with
                | true => rfl
                | false => exact absurd (List.any_eq_true.mpr ⟨y, hy, by simp [e]⟩) ha
              have e1 := ints_of hall
              rw [ms_cons]
              simp only [ev_nil, E.cst, E.var, E.cmp, E.lst, E.idx, L.disp, L.comp, It.seq, S.ret, q_val, q_one, t_1, g_z, ln_0, ln_1, List.length_map, ms_nil]
              refine ⟨by first | with_reducible exact oo3 ‹_› | omega, ?_⟩
              refine comp_l (fun d => [d]) (fun x => decide (1 < ((es.map toI).countP fun j => j == toI x : Int))) (fun x => x) es (fun y hy K hK => ?_) (fun y hy xx K hK => ?_) ?_
              · obtain ⟨i, rfl, _⟩ := isW_int (hall y hy)
                simp only [p_law_good_2]
                simp only [ev_nil, ev_cons, cd_some, E.cst, E.var, E.cmp, E.idx, q_val, E.countI, c_gt, t_1, setAll, g_z, g_s, List.set_cons_zero, List.set_cons_succ]
                refine ⟨es.map toI, by rw [← e1], i, rfl, ?_⟩
                exact hK
              · simp only [e_law_good_2]
                simp only [E.var, q_val, setAll, g_z, g_s, List.set_cons_zero, List.set_cons_succ]
                exact hK
              rw [map_self]
              refine ⟨by decide, ?_⟩
              rw [c_eqx, eqv_nil, filt_nil]
              refine ⟨ok_filt fun d hd => ok_mono (by decide) (okr d hd), rfl, ?_⟩
              have e2 : (!es.any fun x => decide (1 < ((es.map toI).countP fun j => j == toI x : Int))) = isBal (.tup [w, .lst es]) k := by
                simp only [isBal, isRow, hw, Bool.true_and]
                rw [List.all_eq_true.mpr hall, Bool.true_and, Bool.eq_iff_iff, decide_eq_true_eq, Bool.not_eq_true', List.any_eq_false]
                constructor
                · intro h
                  rw [List.nodup_iff_count]
                  intro a
                  by_cases ha' : a ∈ es.map toI
                  · obtain ⟨y, hy, rfl⟩ := List.mem_map.mp ha'
                    have := h y hy
                    simp only [decide_eq_true_eq, Int.not_lt] at this
                    have e3 : List.count (toI y) (es.map toI) = (es.map toI).countP fun j => j == toI y := rfl
                    omega
                  · rw [List.count_eq_zero_of_not_mem ha']; (first | with_reducible exact Nat.le_succ _ | omega)
                · intro h y hy
                  have := List.nodup_iff_count.mp h (toI y)
                  have e3 : List.count (toI y) (es.map toI) = (es.map toI).countP fun j => j == toI y := rfl
                  simp only [decide_eq_true_eq, Int.not_lt]
                  omega
              rw [e2]
              exact ⟨fun xx h => h, q⟩
          | _ => exact ⟨fun xx h => h, by simpa [isBal, isRow, hw] using q⟩
    · rw [if_pos (by simp; omega)]
      rw [ms_cons]
      simp only [E.cst, S.ret, keepS, true_and, ms_nil]
      have : isBal (.tup ds) k = false := by
        unfold isBal
        split
        · rename_i e; cases e; exact absurd rfl h2
        · rfl
      rw [this] at q; exact q
  | _ => exact ⟨fun xx h => h, q⟩
end
end L04
namespace L04
theorem fit_ints (ns : List Int) : D.ok 6 (.lst (ns.map D.int)) = true := ok_ints 5 ns
theorem fit_tup2 {w r : D} (hw : odd1 w) (hr : D.ok 6 r = true) (hl : ∀ fs, r = .lst fs → fs.length ≤ 1000) : fit1 (.tup [w, r]) := by
  refine ⟨?_, fun es e => ?_⟩
  · simp only [D.ok, List.all_cons, List.all_nil, Bool.and_true, Bool.and_eq_true]
    exact ⟨ok_mono (by decide) hw.1, hr⟩
  · cases e
    refine ⟨by simp, fun r' hr' fs e => ?_⟩
    rcases List.mem_cons.mp hr' with rfl | hr'
    · exact hw.2.2 fs e
    · rw [List.mem_singleton] at hr'; subst hr'; exact hl fs e
theorem odd_int (i : Int) : odd1 (.int i) := ⟨rfl, (fun xx e => by cases e), fun xx e => by cases e⟩
theorem fit_mid {row : List Int} {d : D} {j : Nat} (hd : odd1 d) (hl : row.length ≤ 100) : fit1 (.tup [.int 1, .lst ((row.map D.int).take j ++ [d] ++ (row.map D.int).drop j)]) := by
  refine fit_tup2 (odd_int 1) ?_ fun fs e => ?_
  · simp only [D.ok, List.all_eq_true]
    intro x hx
    simp only [List.mem_append, List.mem_singleton] at hx
    rcases hx with (hx | rfl) | hx
    · obtain ⟨i, _, rfl⟩ := List.mem_map.mp (List.mem_of_mem_take hx); rfl
    · exact ok_mono (by decide) hd.1
    · obtain ⟨i, _, rfl⟩ := List.mem_map.mp (List.mem_of_mem_drop hx); rfl
  · cases e
    simp; omega
theorem ok_bal : D.ok 3 (.str "ballot") = true := by decide +kernel

section
variable {X : Cx} {c : CA} {n : Nat} {σ : Sg}
theorem wrong_spec (H : Has X c) {i : Int} {k : Nat} {Q : D → Sg → Prop} (hk : k ≤ 100) (q : ∀ d, fit1 d → Q d σ) : CallSem X (n + 1 + 1) "_law_wrong" [.int i, .int k] σ Q := by
  apply call_law_wrong H
  simp only [m_law_wrong]
  rw [ms_cons]
  simp only [ev_nil, ev_cons, E.cst, E.var, E.bin, E.call, S.asg, q_val, b_div, flD, g_z, List.set_cons_zero, List.set_cons_succ]
  refine ⟨by decide, ⟨by decide, by decide⟩, ?_⟩
  refine strange_spec H fun d1 h1 => ?_
  rw [ms_cons]
  simp only [ev_nil, ev_cons, E.cst, E.var, E.bin, E.call, S.asg, q_val, b_sub, b_div, g_z, g_s, List.set_cons_zero, List.set_cons_succ]
  refine ⟨by decide, ⟨by decide, by decide⟩, ?_⟩
  refine strange_spec H fun d2 h2 => ?_
  rw [ms_cons]
  simp only [ev_nil, ev_cons, E.cst, E.var, E.bin, E.call, S.asg, q_val, b_div, g_z, g_s, List.set_cons_zero, List.set_cons_succ]
  refine ⟨by decide, ⟨by decide, by decide⟩, ?_⟩
  refine hasRow H hk fun row hr => ?_
  have hlen := hr.len
  rw [ms_cons]
  simp only [ev_nil, ev_cons, E.cst, E.var, E.bin, E.bi, S.asg, q_val, b_add, b_div, b_mod, f_len, g_z, g_s, List.set_cons_zero, List.set_cons_succ, List.length_map]
  refine ⟨by decide, ⟨by decide, by decide⟩, by first | with_reducible exact ooc ‹_› ‹_› | omega, by omega, ?_⟩
  have a0 := Int.fmod_nonneg_of_pos (i.fdiv 720) (b := (row.length : Int) + 1) (by omega)
  have a1 := Int.fmod_lt_of_pos (i.fdiv 720) (b := (row.length : Int) + 1) (by omega)
  generalize (i.fdiv 720).fmod ((row.length : Int) + 1) = at_ at a0 a1
  rw [ms_cons]
  simp only [E.cst, E.var, E.bin, E.cmp, S.iff, q_val, b_mod, c_eq, cond_bool, g_z, decide_eq_true_eq, ms_nil]
  refine ⟨by decide, ?_⟩
  by_cases c0 : i.fmod 8 = 0
  · rw [if_pos c0, ms_cons]
    simp only [ev_nil, ev_cons, E.cst, E.var, E.lst, L.disp, S.ret, q_val, keepS, g_z, g_s, ln_2, true_and, ms_nil]
    refine ⟨by decide, q _ ⟨?_, fun xx e => by cases e⟩⟩
    simp only [D.ok, List.all_cons, List.all_nil, Bool.and_true, Bool.true_and]
    exact fit_ints row
  rw [if_neg c0, ms_cons]
  simp only [E.cst, E.var, E.bin, E.cmp, S.iff, q_val, b_mod, c_eq, cond_bool, g_z, decide_eq_true_eq, ms_nil]
  refine ⟨by decide, ?_⟩
  by_cases c1 : i.fmod 8 = 1
  · rw [if_pos c1, ms_cons]
    simp only [ev_nil, ev_cons, E.cst, E.var, E.tupE, S.ret, q_val, keepS, g_z, g_s, true_and, ms_nil]
    refine ⟨by simp, q _ ⟨?_, fun es e => ?_⟩⟩
    · simp only [D.ok, List.all_cons, List.all_nil, Bool.and_true, Bool.true_and]
      exact fit_ints row
    · cases e
      refine ⟨by simp, fun r hr fs e => ?_⟩
      simp only [List.mem_cons, List.not_mem_nil, or_false] at hr
      rcases hr with rfl | rfl | rfl
      · cases e
      · cases e; simp; (first | with_reducible exact ooc ‹_› ‹_› | omega)
      · cases e
  rw [if_neg c1, ms_cons]
  simp only [E.cst, E.var, E.bin, E.cmp, S.iff, q_val, b_mod, c_eq, cond_bool, g_z, decide_eq_true_eq, ms_nil]
  refine ⟨by decide, ?_⟩
  by_cases c2 : i.fmod 8 = 2
  · rw [if_pos c2, ms_cons]
    simp only [ev_nil, ev_cons, E.var, E.tupE, S.ret, q_val, keepS, g_z, g_s, ln_2, true_and, ms_nil]
    exact ⟨by decide, q _ (fit_tup2 h1 (fit_ints row) fun fs e => by cases e; simp; (first | with_reducible exact ooc ‹_› ‹_› | omega))⟩
  rw [if_neg c2, ms_cons]
  simp only [E.cst, E.var, E.bin, E.cmp, S.iff, q_val, b_mod, c_eq, cond_bool, g_z, decide_eq_true_eq, ms_nil]
  refine ⟨by decide, ?_⟩
  by_cases c3 : i.fmod 8 = 3
  · rw [if_pos c3, ms_cons]
    simp only [ev_nil, ev_cons, E.cst, E.var, E.lst, E.tupE, L.disp, L.upto, L.from_, L.cat, S.ret, q_val, q_int, q_lst, keepS, g_z, g_s, ln_1, ln_2, List.length_map, true_and, ms_nil]
    refine ⟨by first | with_reducible assumption | omega, by first | with_reducible exact ooc ‹_› ‹_› | omega, by decide, by simp; omega, by first | with_reducible assumption | omega, by first | with_reducible exact ooc ‹_› ‹_› | omega, by simp; omega, by decide, ?_⟩
    exact q _ (fit_mid h2 (by first | with_reducible exact ooc ‹_› ‹_› | omega))
  rw [if_neg c3, ms_cons]
  simp only [E.cst, E.var, E.bin, E.cmp, S.iff, q_val, b_mod, c_eq, cond_bool, g_z, decide_eq_true_eq, ms_nil]
  refine ⟨by decide, ?_⟩
  by_cases c4 : i.fmod 8 = 4
  · rw [if_pos c4, ms_cons]
    simp only [ev_nil, ev_cons, E.cst, E.var, E.tupE, E.bi, S.ret, q_val, keepS, g_z, g_s, ln_2, true_and, ms_nil]
    rw [f_tuple1]
    refine ⟨by simp; (first | with_reducible exact ooc ‹_› ‹_› | omega), by decide, q _ (fit_tup2 (odd_int 1) ?_ fun xx e => by cases e)⟩
    simp only [D.ok, List.all_eq_true]
    intro x hx
    obtain ⟨i, _, rfl⟩ := List.mem_map.mp hx; rfl
  rw [if_neg c4, ms_cons]
  have tail : mExecs X (n + 1) [.ret (.idx (.lst (.disp [(.cst .none), (.cst (.int 7)), (.cst (.str "ballot")), (.tupE [(.cst (.int 1))]), (.tupE [])])) (.bin .mod (.bin .fdiv (.var 0) (.cst (.int 8))) (.cst (.int 5))))] [.val (.int i), .val (.int k), .val d1, .val d2, .val (.lst (row.map D.int)), .val (.int at_), .unb] σ (fun fl xx σ' => (∀ b, σ b ≠ none → σ' b ≠ none) ∧ Q (flD fl) σ') := by
    refine ret_one (pick (k := (i.fdiv 8).fmod 5) (ds := [.none, .int 7, .str "ballot", .tup [.int 1], .tup []]) (.cons (fun xx q => q) (.cons (fun xx q => q) (.cons (fun xx q => q) (.cons (fun xx q => ⟨by decide, q⟩) (.cons (fun xx q => ⟨by decide, q⟩) .nil))))) (by simp) (fun xx q => ⟨by decide, ⟨by decide, by decide⟩, by decide, q⟩)
      (Int.fmod_nonneg_of_pos _ (by decide)) (Int.fmod_lt_of_pos _ (by decide)) ?_)
    intro d hd
    refine ⟨fun xx h => h, q d ?_⟩
    simp only [List.mem_cons, List.not_mem_nil, or_false] at hd
    rcases hd with rfl | rfl | rfl | rfl | rfl
    · exact ⟨rfl, fun xx e => by cases e⟩
    · exact ⟨rfl, fun xx e => by cases e⟩
    · exact ⟨ok_mono (by decide) ok_bal, fun xx e => by cases e⟩
    · exact ⟨rfl, fun es e => by cases e; exact ⟨by simp, fun r hr fs e => by rw [List.mem_singleton] at hr; rw [hr] at e; cases e⟩⟩
    · exact ⟨rfl, fun es e => by cases e; exact ⟨by simp, fun r hr => by cases hr⟩⟩
  generalize ([.ret (.idx (.lst (.disp [(.cst .none), (.cst (.int 7)), (.cst (.str "ballot")), (.tupE [(.cst (.int 1))]), (.tupE [])])) (.bin .mod (.bin .fdiv (.var 0) (.cst (.int 8))) (.cst (.int 5))))] : List S) = tl at tail ⊢
  simp only [ev_nil, E.cst, E.var, E.bin, E.cmp, E.and_, E.lst, L.disp, S.iff, q_val, b_mod, c_eq, cond_bool, g_z, g_s, ln_0, decide_eq_true_eq, ms_nil, if_false, Bool.false_eq_true]
  refine ⟨by decide, ?_⟩
  by_cases c5 : i.fmod 8 = 5
  · rw [if_pos c5]
    refine ⟨by decide, ?_⟩
    rw [c_nex, eqv_nil]
    refine ⟨ok_ints 7 row, rfl, ?_⟩
    cases row with
    | nil =>
      rw [if_neg (by simp)]
      exact tail
    | cons r0 rs =>
      rw [if_pos (by simp), ms_cons]
      have hl : (r0 :: rs).length ≤ 100 := by first | with_reducible exact ooc ‹_› ‹_› | omega
      have hp : 0 < (r0 :: rs).length := by simp
      generalize (r0 :: rs) = row at *
      simp only [ev_nil, ev_cons, E.cst, E.var, E.bin, E.idx, E.bi, S.asg, q_val, b_div, b_mod, i_ints, f_len, g_z, g_s, List.set_cons_zero, List.set_cons_succ, List.length_map]
      have b0 := Int.fmod_nonneg_of_pos (i.fdiv 97) (b := (row.length : Int)) (by omega)
      have b1 := Int.fmod_lt_of_pos (i.fdiv 97) (b := (row.length : Int)) (by omega)
      refine ⟨by decide, ⟨by decide, by decide⟩, by first | with_reducible exact oo3 ‹_› | omega, by omega, b0, by omega, b1, ?_⟩
      rw [ms_cons]
      simp only [ev_nil, ev_cons, E.cst, E.var, E.lst, E.tupE, L.disp, L.upto, L.from_, L.cat, S.ret, q_val, q_int, q_lst, keepS, g_z, g_s, ln_1, ln_2, List.length_map, true_and, ms_nil]
      refine ⟨by first | with_reducible assumption | omega, by first | with_reducible exact oo3 ‹_› | omega, by decide, by simp; omega, by first | with_reducible assumption | omega, by first | with_reducible exact oo3 ‹_› | omega, by simp; omega, by decide, ?_⟩
      exact q _ (fit_mid (odd_int _) (by first | with_reducible assumption | omega))
  · rw [if_neg c5]
    exact tail
theorem due_spec (H : Has X c) {asked seats : D} {ds : List D} (F : Fit asked ds seats) {Q : D → Sg → Prop} (q : Q (.str (due asked ds seats)) σ) : CallSem X (n + 1 + 1 + 1 + 1) "_law_due" [asked, .lst ds, seats] σ Q := by
  have hlen := F.len
  apply call_law_due H
  simp only [m_law_due]
  rw [ms_cons]
  simp only [ev_nil, ev_cons, E.cst, E.var, E.not_, E.call, S.iff, q_val, cond_bool, flD, g_z, ms_nil]
  refine is_spec H (noRef_ok F.asked) ?_
  simp only [not_bool, Bool.not_eq_true']
  cases ha : isW asked 1 12 with
  | false =>
    simp only [if_true]
    rw [ms_cons]
    simp only [E.cst, S.ret, keepS, true_and, ms_nil]
    simpa [due, ha] using q
  | true =>
    simp only [if_false, reduceCtorEq]
    obtain ⟨k, rfl, hk0, hk1⟩ := isW_int ha
    rw [ms_cons]
    simp only [ev_nil, ev_cons, E.cst, E.var, E.not_, E.call, S.iff, q_val, cond_bool, g_z, g_s, ms_nil]
    refine is_spec H (noRef_ok F.seats) ?_
    simp only [not_bool, Bool.not_eq_true']
    cases hs : isW seats 1 k with
    | false =>
      simp only [if_true]
      rw [ms_cons]
      simp only [E.cst, S.ret, keepS, true_and, ms_nil]
      simpa [due, ha, toI, hs] using q
    | true =>
      simp only [if_false, reduceCtorEq]
      rw [ms_cons]
      simp only [ev_nil, ev_cons, E.cst, E.var, E.cmp, E.bi, S.iff, q_val, c_gt, cond_bool, f_len, g_z, g_s, decide_eq_true_eq, ms_nil]
      refine ⟨by first | with_reducible exact oo3 ‹_› | omega, ?_⟩
      by_cases hl : 40 < ds.length
      · rw [if_pos (by omega), ms_cons]
        simp only [E.cst, S.ret, keepS, true_and, ms_nil]
        simpa [due, ha, toI, hs, hl] using q
      · rw [if_neg (by omega), ms_cons]
        simp only [ev_nil, E.var, E.cmp, E.lst, L.disp, L.comp, It.seq, S.iff, q_val, q_one, cond_bool, g_z, g_s, ln_0, ln_1, List.length_map, ms_nil]
        refine ⟨by first | with_reducible exact oo3 ‹_› | omega, ?_⟩
        refine comp_l (fun d => [d]) (fun x => !isBal x k) (fun x => x) ds (fun y hy K hK => ?_) (fun y hy xx K hK => ?_) ?_
        · simp only [p_law_due_1]
          simp only [ev_nil, ev_cons, cd_some, E.var, E.not_, E.call, q_val, setAll, g_z, g_s, List.set_cons_zero, List.set_cons_succ]
          refine good_spec H (F.each y hy) ?_
          simp only [not_bool]
          exact hK
        · simp only [e_law_due_1]
          simp only [E.var, q_val, setAll, g_z, g_s, List.set_cons_zero, List.set_cons_succ]
          exact hK
        rw [map_self]
        refine ⟨by decide, ?_⟩
        rw [c_nex, eqv_nil, filt_nil]
        refine ⟨ok_filt fun d hd => (F.each d hd).1, rfl, ?_⟩
        cases hb : (ds.any fun d => !isBal d k) with
        | true =>
          simp only [if_true, Bool.not_true, Bool.not_false]
          rw [ms_cons]
          simp only [E.cst, S.ret, keepS, true_and, ms_nil]
          simp only [due, ha, toI, hs, if_true, if_neg hl, hb] at q
          exact q
        | false =>
          simp only [if_false, Bool.not_true, Bool.not_false, Bool.false_eq_true]
          rw [ms_cons]
          simp only [E.cst, S.ret, keepS, true_and, ms_nil]
          simp only [due, ha, toI, hs, if_true, if_neg hl, hb, if_false, Bool.false_eq_true] at q
          exact q
end
end L04
namespace L04
theorem ok_due {asked seats : D} {ds : List D} : D.ok 8 (.str (due asked ds seats)) = true := by
  have h : ∀ w ∈ ([("BadCount" : Str), "BadSeats", "TooMany", "BadBallot", ""] : List Str), D.ok 8 (.str w) = true := by decide +kernel
  refine h _ ?_
  unfold due
  split
  · split
    · split
      · exact .tail _ (.tail _ (.head _))
      · split
        · exact .tail _ (.tail _ (.tail _ (.head _)))
        · exact .tail _ (.tail _ (.tail _ (.tail _ (.head _))))
    · exact .tail _ (.head _)
  · exact .head _
theorem fit_list {ds : List D} (h : ∀ d ∈ ds, fit1 d) : D.ok 8 (.lst ds) = true := by
  simp only [D.ok, List.all_eq_true]
  exact fun d hd => (h d hd).1
theorem odd_ok {d : D} (h : odd1 d) : D.ok 7 d = true := ok_mono (by decide) h.1

theorem okE : D.ok 8 (.str "") = true := by decide +kernel
noncomputable abbrev K0 : Fl → List MV → Sg → Prop := fun fl xx xx => flD fl = .bool true
section
variable {X : Cx} {c : CA} {n : Nat} {x : EA} {asked seats : D} {ds : List D} {a b e : MV}
theorem law_12 (H : Has X c) (EX : ExcsIs X x) (F : Fit asked ds seats) {w : Int} : mExecs X (n + 1 + 1 + 1 + 1 + 1 + 1 + 1 + 1) (m_law.drop 12) [a, b, .val (.lst ds), .val seats, e, .val asked, .val (.int w), .unb, .unb] empS K0 := by
  have hlen := F.len
  rw [show m_law.drop 12 = _ :: m_law.drop 13 from rfl, ms_cons]
  simp only [E.var, L.ofSeq, It.seq, S.asgM, q_val, q_one, g_z, g_s, List.set_cons_zero, List.set_cons_succ, List.length_map, map_headD]
  refine ⟨by first | with_reducible exact oo3 ‹_› | omega, ?_⟩
  rw [show m_law.drop 13 = _ :: m_law.drop 14 from rfl, ms_cons]
  simp only [ev_nil, ev_cons, E.var, q_val, S.told, frzAll, g_z, g_s, List.set_cons_zero, List.set_cons_succ]
  refine (told_spec H EX F).mono fun d hd => ?_
  subst hd
  rw [show m_law.drop 14 = _ :: m_law.drop 15 from rfl, ms_cons]
  simp only [ev_nil, ev_cons, E.var, E.cmp, E.or_, E.call, E.borrow, S.iff, q_val, cond_bool, frzAll, g_z, g_s, List.set_cons_zero, List.set_cons_succ, ms_nil, if_true]
  refine due_spec H F ?_
  rw [c_nex, eqv_str]
  refine ⟨ok_due, ok_due, ?_⟩
  rw [beq_self_eq_true]
  simp only [if_false, Bool.not_true, Bool.false_eq_true]
  rw [c_nex]
  refine ⟨fit_list F.each, fit_list F.each, ?_⟩
  rw [show eqv (.lst ds) (.lst ds) = true from eqv_rfl _]
  simp only [if_false, Bool.not_true, Bool.false_eq_true]
  show mExecs _ _ _ _ _ _
  rw [show m_law.drop 15 = _ :: m_law.drop 16 from rfl, ms_cons]
  simp only [q_mt, Mine.S.clr, g_z, g_s, List.set_cons_zero, List.set_cons_succ]
  refine ⟨by first | with_reducible exact oo3 ‹_› | omega, ?_⟩
  rw [show m_law.drop 16 = _ :: m_law.drop 17 from rfl, ms_cons]
  simp only [ev_nil, ev_cons, E.cst, E.lst, E.tupE, L.disp, S.app, q_mt, g_z, g_s, List.set_cons_zero, List.set_cons_succ, ln_0, ln_1, ln_2]
  refine ⟨by decide, by decide, by decide, ?_⟩
  rw [show m_law.drop 17 = _ :: [] from rfl, ms_cons]
  simp only [ev_nil, ev_cons, E.cst, E.var, E.cmp, E.call, E.borrow, S.ret, q_val, frzAll, g_z, g_s, List.set_cons_zero, List.set_cons_succ, ms_nil]
  have hB : Bal 1 [((3 : Int), [(0 : Int)])] := ⟨by decide, by simp, fun b hb => by rw [List.mem_singleton] at hb; subst hb; exact ⟨by simp, by simp⟩⟩
  have hq : ∀ σ : Sg, cmpT .eq (.str "") (.str "") fun r => D.onAtom (.bool r) (flD (.ret (.bool r)) = .bool true) := fun xx => ⟨okE, okE, rfl⟩
  exact told_ok (k := 1) (B := [(3, [0])]) (s := 1) H (by decide) (by decide) (by decide) (by decide) hB hq

theorem law_10 (H : Has X c) (EX : ExcsIs X x) {k : Nat} {ns : List Int} (hl : ns.length ≤ 63) (hs : odd1 seats) (hd : ∀ d ∈ ds, fit1 d) (hn : ds.length ≤ 1000) :
    mExecs X (n + 1 + 1 + 1 + 1 + 1 + 1 + 1 + 1) (m_law.drop 9) [.val (.lst (ns.map D.int)), .val (.int k), .val (.lst ds), .val seats, e, .unb, .unb, .unb, .unb] empS K0 := by
  have t11 : ∀ asked, odd1 asked → mExecs X (n + 1 + 1 + 1 + 1 + 1 + 1 + 1 + 1) (m_law.drop 11) [.val (.lst (ns.map D.int)), .val (.int k), .val (.lst ds), .val seats, e, .val asked, .unb, .unb, .unb] empS K0 := fun asked ha => by
    rw [show m_law.drop 11 = _ :: m_law.drop 12 from rfl, ms_cons]
    simp only [ev_nil, ev_cons, E.cst, E.var, E.bin, E.call, S.asg, q_val, g_z, List.set_cons_zero, List.set_cons_succ]
    refine hasCell H hl (by decide) (by decide) ?_
    simp only [b_mod]
    refine ⟨by decide, ?_⟩
    exact law_12 H EX ⟨odd_ok ha, odd_ok hs, hd, hn⟩
  rw [show m_law.drop 9 = _ :: m_law.drop 10 from rfl, ms_cons]
  simp only [E.var, S.asg, q_val, g_z, g_s, List.set_cons_zero, List.set_cons_succ]
  rw [show m_law.drop 10 = _ :: m_law.drop 11 from rfl, ms_cons]
  simp only [ev_nil, ev_cons, E.cst, E.var, E.bin, E.cmp, E.call, S.iff, q_val, cond_bool, g_z, ms_nil]
  refine hasCell H hl (by decide) (by decide) ?_
  simp only [b_mod, c_eq, decide_eq_true_eq]
  refine ⟨by decide, ?_⟩
  by_cases h : (cellV ns 58).fmod 4 = 1
  · rw [if_pos h, ms_cons]
    simp only [ev_nil, ev_cons, E.cst, E.var, E.call, S.asg, q_val, g_z, List.set_cons_zero, List.set_cons_succ, ms_nil]
    refine hasCell H hl (by decide) (by decide) ?_
    refine strange_spec H fun d hd => ?_
    exact t11 d hd
  · rw [if_neg h]
    exact t11 _ (odd_int _)
theorem law_7 (H : Has X c) (EX : ExcsIs X x) {k : Nat} {ns : List Int} {s : Int} (hl : ns.length ≤ 63) (hd : ∀ d ∈ ds, fit1 d) (hn : ds.length ≤ 41) :
    mExecs X (n + 1 + 1 + 1 + 1 + 1 + 1 + 1 + 1) (m_law.drop 7) [.val (.lst (ns.map D.int)), .val (.int k), .val (.lst ds), .val (.int s), e, .unb, .unb, .unb, .unb] empS K0 := by
  have t8 : ∀ ds : List D, (∀ d ∈ ds, fit1 d) → ds.length ≤ 1000 → mExecs X (n + 1 + 1 + 1 + 1 + 1 + 1 + 1 + 1) (m_law.drop 8) [.val (.lst (ns.map D.int)), .val (.int k), .val (.lst ds), .val (.int s), e, .unb, .unb, .unb, .unb] empS K0 := fun ds hd hn => by
    rw [show m_law.drop 8 = _ :: m_law.drop 9 from rfl, ms_cons]
    simp only [ev_nil, ev_cons, E.cst, E.var, E.bin, E.cmp, E.call, S.iff, q_val, cond_bool, g_z, ms_nil]
    refine hasCell H hl (by decide) (by decide) ?_
    simp only [b_mod, c_eq, decide_eq_true_eq]
    refine ⟨by decide, ?_⟩
    by_cases h : (cellV ns 57).fmod 3 = 1
    · rw [if_pos h, ms_cons]
      simp only [ev_nil, ev_cons, E.cst, E.var, E.call, S.asg, q_val, g_z, g_s, List.set_cons_zero, List.set_cons_succ, ms_nil]
      refine hasCell H hl (by decide) (by decide) ?_
      refine strange_spec H fun d ho => ?_
      exact law_10 H EX hl ho hd hn
    · rw [if_neg h]
      exact law_10 H EX hl (odd_int _) hd hn
  rw [show m_law.drop 7 = _ :: m_law.drop 8 from rfl, ms_cons]
  simp only [ev_nil, ev_cons, E.cst, E.var, E.bin, E.cmp, E.call, S.iff, q_val, cond_bool, g_z, ms_nil]
  refine hasCell H hl (by decide) (by decide) ?_
  simp only [b_mod, c_eq, decide_eq_true_eq]
  refine ⟨by decide, ?_⟩
  by_cases h : (cellV ns 56).fmod 6 = 1
  · rw [if_pos h, ms_cons]
    simp only [ev_nil, ev_cons, E.cst, E.var, E.bin, E.lst, E.tupE, E.call, E.bi, L.disp, L.rep, L.cat, S.asg, q_val, q_lst, b_sub, f_len, g_z, g_s, List.set_cons_zero, List.set_cons_succ, ln_0, ln_2, ms_nil]
    refine ⟨by decide, by decide, by first | with_reducible exact oo3 ‹_› | omega, ?_⟩
    refine hasCell H hl (by decide) (by decide) ?_
    simp only [q_int, b_add, b_div, b_mod]
    have b0 := Int.fmod_nonneg_of_pos ((cellV ns 56).fdiv 6) (b := 3) (by decide)
    have b1 := Int.fmod_lt_of_pos ((cellV ns 56).fdiv 6) (b := 3) (by decide)
    refine ⟨by decide, ⟨by decide, by decide⟩, by decide, by omega, by omega, ?_⟩
    refine ⟨by simp; omega, ?_⟩
    refine t8 _ (fun d hm => ?_) (by simp; omega)
    rcases List.mem_append.mp hm with hm | hm
    · exact hd d hm
    · rw [(List.mem_replicate.mp hm).2]
      exact fit_tup2 (odd_int 1) rfl fun fs e => by cases e; simp
  · rw [if_neg h]
    exact t8 ds hd (by first | with_reducible exact oo3 ‹_› | omega)
theorem fit_bal {k : Nat} {B : List (Int × List Int)} (hk : k ≤ 100) (hB : Bal k B) : ∀ d ∈ dB B, fit1 d := fun d hd => by
  obtain ⟨b, hb, rfl⟩ := List.mem_map.mp hd
  have := (hB.row b hb).len
  exact fit_tup2 (odd_int _) (fit_ints _) fun fs e => by cases e; simp; (first | with_reducible exact ooc ‹_› ‹_› | omega)
theorem law_spec (H : Has X c) (EX : ExcsIs X x) {ns : List Int} (hl : ns.length ≤ 63) :
    mExecs X (n + 1 + 1 + 1 + 1 + 1 + 1 + 1 + 1) m_law [.val (.lst (ns.map D.int)), .unb, .unb, .unb, .unb, .unb, .unb, .unb, .unb] empS K0 := by
  rw [show m_law = _ :: m_law.drop 1 from rfl, ms_cons]
  simp only [ev_nil, ev_cons, E.cst, E.var, E.bin, E.call, S.asg, q_val, g_z, List.set_cons_zero, List.set_cons_succ]
  refine hasCell H hl (by decide) (by decide) ?_
  simp only [b_add, b_mod]
  refine ⟨by decide, ?_⟩
  have k0 := Int.fmod_nonneg_of_pos (cellV ns 0) (b := 6) (by decide)
  have k1 := Int.fmod_lt_of_pos (cellV ns 0) (b := 6) (by decide)
  obtain ⟨k, hk⟩ : ∃ k : Nat, 1 + (cellV ns 0).fmod 6 = (k : Int) := ⟨(1 + (cellV ns 0).fmod 6).toNat, by omega⟩
  rw [hk]
  have hk1 : 1 ≤ k := by omega
  have hk6 : k ≤ 6 := by omega
  rw [show m_law.drop 1 = _ :: m_law.drop 2 from rfl, ms_cons]
  simp only [ev_nil, ev_cons, E.cst, E.var, E.call, L.upto, S.asgM, q_val, q_int, g_z, g_s, List.set_cons_zero, List.set_cons_succ]
  refine hasBal H hl (by first | with_reducible exact oo3 ‹_› | omega) fun B hB => ?_
  have hBl : (dB B).length ≤ 40 := by simp only [dB, List.length_map]; exact hB.len
  simp only [q_lst]
  refine ⟨by decide, by first | with_reducible exact oo3 ‹_› | omega, ?_⟩
  have hd0 : ∀ d ∈ (dB B).take (Int.toNat 6), fit1 d := fun d hd => fit_bal (by first | with_reducible exact oo3 ‹_› | omega) hB d (List.mem_of_mem_take hd)
  have hn0 : ((dB B).take (Int.toNat 6)).length ≤ 6 := by rw [List.length_take]; exact Nat.min_le_left _ _
  generalize (dB B).take (Int.toNat 6) = ds0 at hd0 hn0
  rw [show m_law.drop 2 = _ :: m_law.drop 3 from rfl, ms_cons]
  simp only [ev_nil, ev_cons, E.cst, E.var, E.bin, E.call, S.asg, q_val, g_z, g_s, List.set_cons_zero, List.set_cons_succ]
  refine hasCell H hl (by decide) (by decide) ?_
  simp only [b_add, b_mod]
  refine ⟨by omega, ?_⟩
  generalize 1 + (cellV ns 4).fmod (k : Int) = s
  rw [show m_law.drop 3 = _ :: m_law.drop 4 from rfl, ms_cons]
  simp only [ev_nil, ev_cons, E.cst, E.var, E.call, S.asg, q_val, g_z, List.set_cons_zero, List.set_cons_succ]
  refine hasCell H hl (by decide) (by decide) ?_
  generalize cellV ns 5 = way
  have t6 : ∀ ds : List D, (∀ d ∈ ds, fit1 d) → ds.length ≤ 41 → mExecs X (n + 1 + 1 + 1 + 1 + 1 + 1 + 1 + 1) (m_law.drop 6) [.val (.lst (ns.map D.int)), .val (.int k), .mt ds, .val (.int s), .val (.int way), .unb, .unb, .unb, .unb] empS K0 := fun ds hd hn => by
    rw [show m_law.drop 6 = _ :: m_law.drop 7 from rfl, ms_cons]
    simp only [S.freeze, q_mt, g_z, g_s, List.set_cons_zero, List.set_cons_succ]
    exact law_7 H EX hl hd hn
  have t5 : ∀ ds : List D, (∀ d ∈ ds, fit1 d) → ds.length ≤ 40 → mExecs X (n + 1 + 1 + 1 + 1 + 1 + 1 + 1 + 1) (m_law.drop 5) [.val (.lst (ns.map D.int)), .val (.int k), .mt ds, .val (.int s), .val (.int way), .unb, .unb, .unb, .unb] empS K0 := fun ds hd hn => by
    rw [show m_law.drop 5 = _ :: m_law.drop 6 from rfl, ms_cons]
    simp only [E.cst, E.var, E.bin, E.cmp, S.iff, q_val, b_mod, c_eq, cond_bool, g_z, g_s, decide_eq_true_eq, ms_nil]
    refine ⟨by decide, ?_⟩
    by_cases h : way.fmod 3 = 1
    · rw [if_pos h, ms_cons]
      simp only [ev_nil, ev_cons, E.cst, E.var, E.bin, E.call, q_val, q_mt, E.lenM, Mine.S.ins, b_add, b_div, b_mod, g_z, g_s, List.set_cons_zero, List.set_cons_succ, ms_nil]
      have b0 := Int.fmod_nonneg_of_pos (way.fdiv 3) (b := (ds.length : Int) + 1) (by omega)
      have b1 := Int.fmod_lt_of_pos (way.fdiv 3) (b := (ds.length : Int) + 1) (by omega)
      refine ⟨by first | with_reducible exact oo3 ‹_› | omega, by decide, ⟨by decide, by decide⟩, by first | with_reducible exact oo3 ‹_› | omega, by omega, ?_⟩
      refine hasCell H hl (by decide) (by decide) ?_
      refine wrong_spec H (by first | with_reducible exact oo3 ‹_› | omega) fun d hf => ?_
      refine ⟨_, _, rfl, b0, by omega, ?_⟩
      refine t6 _ (fun y hy => ?_) (by simp; omega)
      rcases List.mem_append.mp hy with hy | hy
      · exact hd y (List.mem_of_mem_take hy)
      · rcases List.mem_cons.mp hy with rfl | hy
        · exact hf
        · exact hd y (List.mem_of_mem_drop hy)
    · rw [if_neg h]
      exact t6 ds hd (by first | with_reducible exact oo3 ‹_› | omega)
  rw [show m_law.drop 4 = _ :: m_law.drop 5 from rfl, ms_cons]
  simp only [ev_nil, ev_cons, E.cst, E.var, E.bin, E.cmp, E.call, S.iff, q_val, cond_bool, g_z, ms_nil]
  refine hasCell H hl (by decide) (by decide) ?_
  simp only [b_mod, c_eq, decide_eq_true_eq]
  refine ⟨by decide, ?_⟩
  by_cases h : (cellV ns 55).fmod 6 = 1
  · rw [if_pos h, ms_cons]
    simp only [ev_nil, ev_cons, E.cst, E.var, E.bin, E.tupE, E.call, S.app, q_val, q_mt, g_z, g_s, List.set_cons_zero, List.set_cons_succ, ln_2, ms_nil]
    refine ⟨by first | with_reducible exact oo3 ‹_› | omega, ?_⟩
    refine hasCell H hl (by decide) (by decide) ?_
    simp only [b_div]
    refine ⟨by decide, ⟨by decide, by decide⟩, ?_⟩
    refine hasRow H (by first | with_reducible exact oo3 ‹_› | omega) fun r hr => ?_
    have := hr.len
    refine ⟨by decide, ?_⟩
    refine t5 _ (fun y hy => ?_) (by simp; (first | with_reducible exact oo3 ‹_› | omega))
    rcases List.mem_append.mp hy with hy | hy
    · exact hd0 y hy
    · rw [List.mem_singleton.mp hy]
      exact fit_tup2 (odd_int _) (fit_ints _) fun fs e => by cases e; simp; (first | with_reducible exact ooc ‹_› ‹_› | omega)
  · rw [if_neg h]
    exact t5 ds0 hd0 (by first | with_reducible exact oo3 ‹_› | omega)
end
end L04
namespace L04
theorem law_done {prog : Program} {w : World} {mg mb : Str → Option Value} {s : Shared} {fa l : Addr} {vs : List Value} {ns : List Int} {P : Value → Shared → Prop} {E : Value → Shared → Prop} {c : CA} {x : EA} (H : Has ⟨prog, w, s.heap, mg, mb, true⟩ c) (EX : ExcsIs ⟨prog, w, s.heap, mg, mb, true⟩ x) (hm : mg "law" = some (.ref fa))
    (hL : ∃ o, s.heap.get? l = some o ∧ o.cls = .type "list" ∧ o.dict = none ∧ ∃ n, o.data = .seq vs.toArray n) (hI : IntsAre vs ns) (hl : ns.length ≤ 63)
    (hP : ∀ h' tk, (∀ b o, s.heap.get? b = some o → h'.get? b = some o) → P (.bool true) { s with heap := h', toks := tk }) : wpAny (model prog w) callerA (call (.ref fa) [.ref l]) P E s :=
  law_endsF (n := 8) (names := n_law) (by decide) hm hL hI H.gnd (sq_law ▸ bq_law ▸ H.law_is) (ScOk.of sc_law) (ok_law H) rfl (law_spec (n := 0) H EX hl) hP
end L04
end Mine
set_option tactic.hygienic true
open PySem PySem.W PyProof.Rows
set_option maxRecDepth 100000 in
set_option maxHeartbeats 8000000 in
theorem PySem.Challenge.cw_uf060016_04_holds : PySem.Challenge.rw_uf060016_04.Holds := by
  w_on
  refine holds_law ?_ fun said => ?_
  · repeat' (first | with_reducible refine look_both ?_ ?_ | delta OpenLaw.wellSaid | delta OpenRow.wellSaid | delta OpenRow.partSaid | delta OpenScript.wellSaid | delta looksOpen)
    all_goals decide +kernel
  o_head (kHook Mine.L04.frag Mine.L04.adrs (fun _ => by kernel_rfl))
  (case hw => w_witness2)
  intro w s₀ s₁ mg mb G Y fa o pm cd doc dV kV ho hd hcd hD hmg hg args vals as hpre hlay hrd hwl hlo
  refine Ground.open G ?_
  intro T B D TE TW
  wrow_args hpre hlay hrd hwl hlo
  rename_i hL _ hW _ hI _ _ hlen
  have H : Mine.L04.Has ⟨PySem.Challenge.rw_uf060016_04.row.toRowW.prog, w, s₁.heap, mg, mb, true⟩ Mine.L04.ca := {
    gnd := Mine.gnd_of_top T (by decide +kernel)
    calm := rfl
    is_whole_is := Mine.fnIs_of_top (f := "is_whole") (ps := ["thing", "least", "most"]) T (by kernel_rfl) (by decide +kernel)
    is_row_is := Mine.fnIs_of_top (f := "is_row") (ps := ["thing", "candidates"]) T (by kernel_rfl) (by decide +kernel)
    is_ballot_is := Mine.fnIs_of_top (f := "is_ballot") (ps := ["thing", "candidates"]) T (by kernel_rfl) (by decide +kernel)
    need_vote_is := Mine.fnIs_of_top (f := "need_vote") (ps := ["candidates", "ballots", "seats"]) T (by kernel_rfl) (by decide +kernel)
    most_held_is := Mine.fnIs_of_top (f := "most_held") (ps := ["holdings", "standing"]) T (by kernel_rfl) (by decide +kernel)
    least_held_is := Mine.fnIs_of_top (f := "least_held") (ps := ["holdings", "standing"]) T (by kernel_rfl) (by decide +kernel)
    deed_of_is := Mine.fnIs_of_top (f := "deed_of") (ps := ["holdings", "standing", "seats", "many"]) T (by kernel_rfl) (by decide +kernel)
    place_of_is := Mine.fnIs_of_top (f := "place_of") (ps := ["row", "standing"]) T (by kernel_rfl) (by decide +kernel)
    held_is := Mine.fnIs_of_top (f := "held") (ps := ["candidates", "places", "left"]) T (by kernel_rfl) (by decide +kernel)
    all_weights_is := Mine.fnIs_of_top (f := "all_weights") (ps := ["ballots"]) T (by kernel_rfl) (by decide +kernel)
    quota_is := Mine.fnIs_of_top (f := "quota") (ps := ["ballots", "seats"]) T (by kernel_rfl) (by decide +kernel)
    parts_is := Mine.fnIs_of_top (f := "parts") (ps := ["weights", "some"]) T (by kernel_rfl) (by decide +kernel)
    rounds_of_is := Mine.fnIs_of_top (f := "rounds_of") (ps := ["candidates", "ballots", "seats"]) T (by kernel_rfl) (by decide +kernel)
    seats_of_is := Mine.fnIs_of_top (f := "seats_of") (ps := ["candidates", "ballots", "seats"]) T (by kernel_rfl) (by decide +kernel)
    law_cell_is := Mine.fnIs_of_top (f := "_law_cell") (ps := ["_law_script", "_law_k"]) T (by kernel_rfl) (by decide +kernel)
    law_whole_is := Mine.fnIs_of_top (f := "_law_whole") (ps := ["_law_found"]) T (by kernel_rfl) (by decide +kernel)
    law_row_is := Mine.fnIs_of_top (f := "_law_row") (ps := ["_law_cell_here", "_law_candidates_here"]) T (by kernel_rfl) (by decide +kernel)
    law_weight_is := Mine.fnIs_of_top (f := "_law_weight") (ps := ["_law_cell_here", "_law_kind"]) T (by kernel_rfl) (by decide +kernel)
    law_ballots_is := Mine.fnIs_of_top (f := "_law_ballots") (ps := ["_law_script", "_law_candidates_here"]) T (by kernel_rfl) (by decide +kernel)
    law_strange_is := Mine.fnIs_of_top (f := "_law_strange") (ps := ["_law_cell_here", "_law_low", "_law_high"]) T (by kernel_rfl) (by decide +kernel)
    law_wrong_is := Mine.fnIs_of_top (f := "_law_wrong") (ps := ["_law_cell_here", "_law_candidates_here"]) T (by kernel_rfl) (by decide +kernel)
    law_is_is := Mine.fnIs_of_top (f := "_law_is") (ps := ["_law_thing", "_law_low", "_law_high"]) T (by kernel_rfl) (by decide +kernel)
    law_good_is := Mine.fnIs_of_top (f := "_law_good") (ps := ["_law_ballot", "_law_candidates_here"]) T (by kernel_rfl) (by decide +kernel)
    law_due_is := Mine.fnIs_of_top (f := "_law_due") (ps := ["_law_candidates_here", "_law_ballots_here", "_law_seats"]) T (by kernel_rfl) (by decide +kernel)
    law_word_is := Mine.fnIs_of_top (f := "_law_word") (ps := ["_law_error"]) T (by kernel_rfl) (by decide +kernel)
    law_told_is := Mine.fnIs_of_top (f := "_law_told") (ps := ["_law_which", "_law_candidates_here", "_law_ballots_here", "_law_seats"]) T (by kernel_rfl) (by decide +kernel)
    law_is := Mine.fnIs_of_top (f := "law") (ps := ["_law_script"]) T (by kernel_rfl) (by decide +kernel)
    Count_init_is := Mine.L04.at_init (kIn_of Y)
    Count_step_is := Mine.L04.at_step (kIn_of Y)
    Count_places_is := Mine.L04.at_places (kIn_of Y)
    Count_left_is := Mine.L04.at_left (kIn_of Y)
    Count_seats_is := Mine.L04.at_seats (kIn_of Y)
    cnt := Mine.L04.cnt (kIn_of Y) T.g }
  have EX := Mine.L04.excs (prog := PySem.Challenge.rw_uf060016_04.row.toRowW.prog) (w := w) (h := s₁.heap) (kIn_of Y) T.g ((T.builtins "ValueError" (by decide +kernel)).trans (by kernel_rfl))
  refine Mine.L04.law_done H EX hmg (Mine.list_plain hL hW) hI (by omega) fun h' tk hk => ?_
  refine ⟨.inl ⟨.bool true, .bool true, [], rfl, ?_, .bool true, ?_, ?_⟩, .of_keep hk, rfl, .of_eq hg⟩
  · intro cls; rfl
  · kernel_rfl
  · intro _; exact ⟨by simp, fun _ h => by cases h⟩

