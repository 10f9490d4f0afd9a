/- The machine, the contracts and the walks on which every Area law rests: a part of the proof. -/
import Derived.WalkKit
import Derived.Below
import Derived.Laws.OwnMore
import Derived.Maps.AppendAt
import Derived.WalkLawsBesides
import Derived.RangeFuncRecord
import Derived.RangeFuncOwn
import Derived.Laws.BytesArg
section
/- Pure values, how they stand in a world, and that they keep standing while the world only grows. -/
set_option linter.unusedVariables false
set_option linter.unusedSimpArgs false
namespace Go.Proofs.Ab
open Go Go.RowKit

/-- A value without places of a frame: a scalar, a pointer to cells that stay, a slice that is read, a function value, a struct or an array, several results. -/
inductive PV where
  | v (x : Value)
  | ref (cs : List PV)
  | seq (sz : Nat) (xs : List (List PV))
  | fn (g : FuncId) (caps : List PV)
  | agg (cs : List PV)
  | tup (vs : List PV)
  deriving Inhabited

/-- An int. -/
abbrev I (n : Int) : PV := .v (.int .i64 n)
abbrev Bo (b : Bool) : PV := .v (.bool b)
abbrev St (s : ByteArray) : PV := .v (.string s)
abbrev nilS : PV := .v (.slice none 0 0)

/-- How a pure value stands in a world whose blocks 'ok' stay as they are. -/
inductive Rep (w : World) (ok : Nat → Prop) : PV → Value → Prop
  | v (x : Value) : Rep w ok (.v x) x
  | ref (cs : List PV) (us : List Value) (b o : Nat) (hok : ok b) (hl : us.length = cs.length)
      (hr : ∀ (j : Nat) (c : PV) (u : Value), cs[j]? = some c → us[j]? = some u → Rep w ok c u)
      (hc : ∀ (j : Nat) (u : Value), us[j]? = some u → w.cell? ⟨b, o + j, none⟩ = some u) : Rep w ok (.ref cs) (.pointer (some ⟨b, o, none⟩))
  | seq (sz : Nat) (xs : List (List PV)) (A : Option Addr) (len cap : Nat) (us : List Value) (hlen : len = xs.length) (hcap : len ≤ cap) (hm : cap ≤ maxLen)
      (hsz : ∀ x ∈ xs, x.length = sz) (hl : us.length = xs.flatten.length)
      (hr : ∀ (j : Nat) (c : PV) (u : Value), xs.flatten[j]? = some c → us[j]? = some u → Rep w ok c u)
      (hA : 0 < len → ∃ b o, A = some ⟨b, o, none⟩ ∧ ok b ∧ ∀ (j : Nat) (u : Value), us[j]? = some u → w.cell? ⟨b, o + j, none⟩ = some u) : Rep w ok (.seq sz xs) (.slice A len cap)
  | fn (g : FuncId) (cs : List PV) (us : List Value) (hl : us.length = cs.length)
      (hr : ∀ (j : Nat) (c : PV) (u : Value), cs[j]? = some c → us[j]? = some u → Rep w ok c u) : Rep w ok (.fn g cs) (.func (.func g) #[] us.toArray)
  | agg (cs : List PV) (us : List Value) (hl : us.length = cs.length)
      (hr : ∀ (j : Nat) (c : PV) (u : Value), cs[j]? = some c → us[j]? = some u → Rep w ok c u) : Rep w ok (.agg cs) (.agg us.toArray)
  | tup (cs : List PV) (us : List Value) (hl : us.length = cs.length)
      (hr : ∀ (j : Nat) (c : PV) (u : Value), cs[j]? = some c → us[j]? = some u → Rep w ok c u) : Rep w ok (.tup cs) (.tuple us.toArray)

/-- A list of values stands for a list of pure values. -/
def RepL (w : World) (ok : Nat → Prop) (cs : List PV) (us : List Value) : Prop :=
  us.length = cs.length ∧ ∀ (j : Nat) (c : PV) (u : Value), cs[j]? = some c → us[j]? = some u → Rep w ok c u

section
variable {w w' : World} {ok ok' : Nat → Prop}

theorem cell_same {a : Addr} (h : w'.heap[a.block]? = w.heap[a.block]?) : w'.cell? a = w.cell? a := by simp [World.cell?, h]

theorem Rep.ext {p : PV} {u : Value} (h : Rep w ok p u) (ho : ∀ b, ok b → ok' b) (hh : ∀ b, ok b → w'.heap[b]? = w.heap[b]?) : Rep w' ok' p u := by
  induction h with
  | v x => exact .v x
  | ref cs us b o hok hl hr hc ih =>
    exact .ref cs us b o (ho b hok) hl ih (fun j u hu => (cell_same (w := w) (hh b hok)).trans (hc j u hu))
  | seq sz xs A len cap us hlen hcap hm hsz hl hr hA ih =>
    refine .seq sz xs A len cap us hlen hcap hm hsz hl ih (fun hp => ?_)
    obtain ⟨b, o, e, hok, hc⟩ := hA hp
    exact ⟨b, o, e, ho b hok, fun j u hu => (cell_same (w := w) (hh b hok)).trans (hc j u hu)⟩
  | fn g cs us hl hr ih => exact .fn g cs us hl ih
  | agg cs us hl hr ih => exact .agg cs us hl ih
  | tup cs us hl hr ih => exact .tup cs us hl ih

theorem RepL.ext {cs : List PV} {us : List Value} (h : RepL w ok cs us) (ho : ∀ b, ok b → ok' b) (hh : ∀ b, ok b → w'.heap[b]? = w.heap[b]?) : RepL w' ok' cs us :=
  ⟨h.1, fun j c u hc hu => (h.2 j c u hc hu).ext ho hh⟩

theorem RepL.nil : RepL w ok [] [] := ⟨rfl, fun j c u h => by simp at h⟩
theorem RepL.cons {c : PV} {u : Value} {cs : List PV} {us : List Value} (h : Rep w ok c u) (hs : RepL w ok cs us) : RepL w ok (c :: cs) (u :: us) :=
  ⟨by simp [hs.1], fun j c' u' hc hu => by
    cases j with
    | zero => simp at hc hu; subst hc; subst hu; exact h
    | succ j => simp at hc hu; exact hs.2 j c' u' hc hu⟩
theorem RepL.uncons {c : PV} {cs : List PV} {us : List Value} (h : RepL w ok (c :: cs) us) : ∃ u us', us = u :: us' ∧ Rep w ok c u ∧ RepL w ok cs us' := by
  cases us with
  | nil => have := h.1; simp at this
  | cons u us =>
    exact ⟨u, us, rfl, h.2 0 c u rfl rfl, by have := h.1; simpa using this, fun j c' u' hc hu => h.2 (j + 1) c' u' (by simpa using hc) (by simpa using hu)⟩
theorem RepL.unnil {us : List Value} (h : RepL w ok [] us) : us = [] := List.eq_nil_of_length_eq_zero (by simpa using h.1)
theorem RepL.append {cs ds : List PV} {us vs : List Value} (h : RepL w ok cs us) (k : RepL w ok ds vs) : RepL w ok (cs ++ ds) (us ++ vs) := by
  induction cs generalizing us with
  | nil => rw [h.unnil]; simpa using k
  | cons c cs ih =>
    obtain ⟨u, us', rfl, hu, hs⟩ := h.uncons
    exact RepL.cons hu (ih hs)
theorem RepL.drop {cs : List PV} {us : List Value} (h : RepL w ok cs us) (n : Nat) : RepL w ok (cs.drop n) (us.drop n) :=
  ⟨by simp [h.1], fun j c u hc hu => h.2 (n + j) c u (by simpa using hc) (by simpa using hu)⟩
theorem RepL.take {cs : List PV} {us : List Value} (h : RepL w ok cs us) (n : Nat) : RepL w ok (cs.take n) (us.take n) :=
  ⟨by simp [h.1], fun j c u hc hu => by
    rw [List.getElem?_take] at hc hu
    split at hc
    · rename_i hj; rw [if_pos hj] at hu; exact h.2 j c u hc hu
    · cases hc⟩
theorem RepL.get {cs : List PV} {us : List Value} (h : RepL w ok cs us) {j : Nat} {c : PV} (hc : cs[j]? = some c) : ∃ u, us[j]? = some u ∧ Rep w ok c u := by
  have hj : j < us.length := by have := (List.getElem?_eq_some_iff.1 hc).1; rw [h.1]; exact this
  exact ⟨us[j], List.getElem?_eq_getElem hj, h.2 j c _ hc (List.getElem?_eq_getElem hj)⟩

/-- One cell's worth: not a struct, an array or several results. -/
def PV.one : PV → Bool
  | .agg _ | .tup _ => false
  | .v x => x.oneCell'
  | _ => true
theorem Rep.oneCell {p : PV} {u : Value} (h : Rep w ok p u) (h1 : p.one = true) : u.oneCell' = true := by
  cases h <;> first | rfl | (simp [PV.one] at h1; done) | simpa [PV.one] using h1

/-- The cells of a value. -/
def PV.cells : PV → List PV
  | .agg cs => cs
  | p => [p]
theorem Value.cells_one {u : Value} (h : u.oneCell' = true) : u.cells = #[u] := by
  cases u <;> first | rfl | simp [Value.oneCell'] at h
theorem Rep.cells {p : PV} {u : Value} (h : Rep w ok p u) (h1 : (match p with | .agg _ => true | p => p.one) = true) : RepL w ok p.cells u.cells.toList := by
  cases h with
  | agg cs us hl hr => exact ⟨by simpa [Value.cells, PV.cells] using hl, by simpa [Value.cells, PV.cells] using hr⟩
  | v =>
    have hx : u.oneCell' = true := by simpa [PV.one] using h1
    rw [Value.cells_one hx]
    exact RepL.cons (.v u) .nil
  | ref cs us b o hok hl hr hc => exact RepL.cons (.ref cs us b o hok hl hr hc) .nil
  | seq sz xs A len cap us hlen hcap hm hsz hl hr hA => exact RepL.cons (.seq sz xs A len cap us hlen hcap hm hsz hl hr hA) .nil
  | fn g cs us hl hr => exact RepL.cons (.fn g cs us hl hr) .nil
  | tup cs us hl hr => simp [PV.one] at h1

/-- A nil slice reads as the empty one. -/
theorem Rep.nil_seq {u : Value} {sz : Nat} (h : Rep w ok nilS u) : Rep w ok (.seq sz []) u := by
  cases h
  exact .seq sz [] none 0 0 [] rfl (Nat.le_refl _) (Nat.zero_le _) (by simp) rfl (by simp) (by omega)
end

/-- What is told by p is told by q. -/
def PLe (p q : PV) : Prop := ∀ (w : World) (ok : Nat → Prop) (u : Value), Rep w ok p u → Rep w ok q u
theorem PLe.refl (p : PV) : PLe p p := fun _ _ _ h => h
theorem PLe.of_eq {p q : PV} (h : p = q) : PLe p q := h ▸ PLe.refl p
theorem PLe.nil (sz : Nat) : PLe nilS (.seq sz []) := fun _ _ _ h => h.nil_seq
theorem PLe.size {sz sz' : Nat} : PLe (.seq sz []) (.seq sz' []) := fun w ok u h => by
  cases h with
  | seq sz xs A len cap us hlen hcap hm hsz hl hr hA => exact .seq sz' [] A len cap us hlen hcap hm (by simp) hl hr hA
def PLeL (ps qs : List PV) : Prop := ps.length = qs.length ∧ ∀ (j : Nat) (p q : PV), ps[j]? = some p → qs[j]? = some q → PLe p q
theorem PLeL.nil : PLeL [] [] := ⟨rfl, fun j p q h => by simp at h⟩
theorem PLeL.cons {p q : PV} {ps qs : List PV} (h : PLe p q) (hs : PLeL ps qs) : PLeL (p :: ps) (q :: qs) :=
  ⟨by simp [hs.1], fun j p' q' hp hq => by
    cases j with
    | zero => simp at hp hq; subst hp; subst hq; exact h
    | succ j => simp at hp hq; exact hs.2 j p' q' hp hq⟩
theorem PLeL.refl (ps : List PV) : PLeL ps ps := ⟨rfl, fun j p q hp hq => by rw [hp] at hq; cases hq; exact PLe.refl p⟩
theorem PLeL.rep {ps qs : List PV} (h : PLeL ps qs) {w : World} {ok : Nat → Prop} {us : List Value} (hr : RepL w ok ps us) : RepL w ok qs us :=
  ⟨by rw [hr.1, h.1], fun j q u hq hu => by
    have hj : j < ps.length := by have := (List.getElem?_eq_some_iff.1 hq).1; rw [h.1]; exact this
    exact h.2 j ps[j] q (List.getElem?_eq_getElem hj) hq w ok u (hr.2 j _ u (List.getElem?_eq_getElem hj) hu)⟩
theorem PLe.tup {ps qs : List PV} (h : PLeL ps qs) : PLe (.tup ps) (.tup qs) := fun w ok u hr => by
  cases hr with
  | tup cs us hl hr => have := h.rep (w := w) (ok := ok) ⟨hl, hr⟩; exact .tup qs us this.1 this.2
theorem PLe.agg {ps qs : List PV} (h : PLeL ps qs) : PLe (.agg ps) (.agg qs) := fun w ok u hr => by
  cases hr with
  | agg cs us hl hr => have := h.rep (w := w) (ok := ok) ⟨hl, hr⟩; exact .agg qs us this.1 this.2

/-! ### The program's tables -/
inductive TK where
  | int (k : IntKind) | bool | string | float (k : FloatKind) | complex (k : FloatKind)
  | struct (fields : List (Nat × Nat)) | array (n e : Nat) | slice (e : Nat) | map (k e : Nat) | other
  deriving DecidableEq, Inhabited
/-- What is asked of a type: its kind, its cells, its bytes, its zero value's cells. -/
structure TI where
  kind : TK
  size : Nat
  bytes : Nat
  zero : List Value
  deriving Inhabited
def TK.agg : TK → Bool
  | .struct _ | .array .. => true
  | _ => false
def Value.scalarEq : Value → Value → Bool
  | .int k n, .int k' n' => decide (k = k') && decide (n = n')
  | .bool a, .bool b => a == b
  | .string a, .string b => a.data.toList == b.data.toList
  | .float k n, .float k' n' => decide (k = k') && decide (n = n')
  | .complex k n m, .complex k' n' m' => decide (k = k') && decide (n = n') && decide (m = m')
  | .slice none a b, .slice none c d => decide (a = c) && decide (b = d)
  | .pointer none, .pointer none => true
  | .map none, .map none => true
  | .nilFunc, .nilFunc => true
  | .nilIface, .nilIface => true
  | _, _ => false
theorem Value.scalarEq_eq {x y : Value} (h : Value.scalarEq x y = true) : x = y := by
  unfold Value.scalarEq at h
  split at h <;> simp_all
  rename_i a b
  cases a; cases b; simp_all
def listEq : List Value → List Value → Bool
  | [], [] => true
  | x :: xs, y :: ys => Value.scalarEq x y && listEq xs ys
  | _, _ => false
theorem listEq_eq : ∀ {xs ys : List Value}, listEq xs ys = true → xs = ys
  | [], [], _ => rfl
  | x :: xs, y :: ys, h => by
    simp only [listEq, Bool.and_eq_true] at h
    rw [Value.scalarEq_eq h.1, listEq_eq h.2]
  | [], _ :: _, h => by simp [listEq] at h
  | _ :: _, [], h => by simp [listEq] at h
def TK.is : TK → TypeDesc → Bool
  | .int k, .int k' => decide (k = k')
  | .bool, .bool => true
  | .string, .string => true
  | .float k, .float k' => decide (k = k')
  | .complex k, .complex k' => decide (k = k')
  | .struct fs, .struct gs => decide (gs.toList.map (fun f => (f.offset, f.type)) = fs)
  | .array n e, .array n' e' => decide (n = n' ∧ e = e')
  | .slice e, .slice e' => decide (e = e')
  | .map k e, .map k' e' => decide (k = k' ∧ e = e')
  | .other, .struct _ => false
  | .other, .array .. => false
  | .other, _ => true
  | _, _ => false
/-- The kind is what the program's table has. -/
def TI.check (P : Program) (t : Nat) (ti : TI) : Bool :=
  (match P.underlying t with | some d => ti.kind.is d | none => false) &&
  (match P.info? t with
   | some i => decide (i.size = ti.size) && decide (i.bytes = ti.bytes) && (match i.zero with | some z => listEq z.cells.toList ti.zero | none => false)
   | none => false)
def checkTab (P : Program) (tab : List (Nat × TI)) : Bool := tab.all fun p => TI.check P p.1 p.2
structure TI.Ok (P : Program) (t : Nat) (ti : TI) : Prop where
  desc : ∃ d, P.underlying t = some d ∧ ti.kind.is d = true
  info : ∃ i z, P.info? t = some i ∧ i.size = ti.size ∧ i.bytes = ti.bytes ∧ i.zero = some z ∧ z.cells.toList = ti.zero
theorem TI.ok_of_check {P : Program} {t : Nat} {ti : TI} (h : TI.check P t ti = true) : TI.Ok P t ti := by
  unfold TI.check at h
  rw [Bool.and_eq_true] at h
  obtain ⟨h1, h2⟩ := h
  constructor
  · cases hu : P.underlying t with
    | none => simp [hu] at h1
    | some d => exact ⟨d, rfl, by simpa [hu] using h1⟩
  · cases hi : P.info? t with
    | none => simp [hi] at h2
    | some i =>
      simp only [hi, Bool.and_eq_true, decide_eq_true_eq] at h2
      obtain ⟨⟨h3, h4⟩, h5⟩ := h2
      cases hz : i.zero with
      | none => simp [hz] at h5
      | some z =>
        simp only [hz] at h5
        exact ⟨i, z, rfl, h3, h4, hz, listEq_eq h5⟩

/-- A first match in a list of pairs. -/
def look {α : Type} : List (Nat × α) → Nat → Option α
  | [], _ => none
  | (n, x) :: r, t => bif Nat.beq n t then some x else look r t
theorem look_mem {α : Type} : ∀ {l : List (Nat × α)} {t : Nat} {x : α}, look l t = some x → (t, x) ∈ l
  | (n, y) :: r, t, x, h => by
    unfold look at h
    cases hb : Nat.beq n t with
    | true =>
      rw [hb] at h
      simp at h
      have := Nat.eq_of_beq_eq_true hb
      subst this; subst h
      exact List.mem_cons_self
    | false =>
      rw [hb] at h
      exact List.mem_cons_of_mem _ (look_mem h)
theorem tab_ok {P : Program} {tab : List (Nat × TI)} (h : checkTab P tab = true) {t : Nat} {ti : TI} (hl : look tab t = some ti) : TI.Ok P t ti :=
  TI.ok_of_check (List.all_eq_true.1 h _ (look_mem hl))

end Go.Proofs.Ab
end
section
/- The states of a frame, the operations that give a value and change nothing that was there, and that the model's operations do what they say. -/
set_option linter.unusedVariables false
set_option linter.unusedSimpArgs false
namespace Go.Proofs.Ab
open Go Go.RowKit

/-! ### Stops: where the evaluation waits for the prover -/
structure SBool (p : Prop) (kt kf : Prop) : Prop where
  t : p → kt
  f : ¬ p → kf
structure SAnd (p : Prop) (k : Prop) : Prop where
  h : p
  k : k
inductive SEx {α : Type} (p : α → Prop) (k : α → Prop) : Prop
  | mk (x : α) (h : p x) (hk : k x)

structure Cx where
  P : Program
  tab : List (Nat × TI)
  glob : List (Nat × List PV)
  inR : Bool := false
  tabs : List (Nat × Array Value) := []
structure Cx.Good (C : Cx) : Prop where
  tab : checkTab C.P C.tab = true
  mixed : C.P.follows .mixedOrders = true
/-- The globals that are told; those whose whole block is told. -/
def GlobOk (C : Cx) (w : World) (ok : Nat → Prop) : Prop := (∀ g cs, look C.glob g = some cs → Rep w ok (.ref cs) (.pointer (some ⟨g, 0, none⟩))) ∧ ∀ g a, look C.tabs g = some a → ok g ∧ ∃ t f, w.heap[g]? = some (.cells a t f)
theorem GlobOk.ext {C : Cx} {w w' : World} {ok ok' : Nat → Prop} (h : GlobOk C w ok) (ho : ∀ b, ok b → ok' b) (hh : ∀ b, ok b → w'.heap[b]? = w.heap[b]?) : GlobOk C w' ok' :=
  ⟨fun g cs hg => (h.1 g cs hg).ext ho hh, fun g a hg => let ⟨h1, t, f, h2⟩ := h.2 g a hg; ⟨ho g h1, t, f, (hh g h1).trans h2⟩⟩

/-- The blocks that stay: those that did, and the new ones. -/
def grow (ok : Nat → Prop) (w w' : World) : Nat → Prop := fun b => ok b ∨ (w.heap.size ≤ b ∧ b < w'.heap.size)

def HasBody (C : Cx) (f : FuncId) : Prop := ∃ fn c, C.P.funcs[f]? = some fn ∧ (fn.name == "runtime.NumGoroutine") = false ∧ fn.body = some c
/-- **A CALL IS A PURE FUNCTION**: handed values that stand for xs, it returns one that stands for v; nothing that was there has changed. -/
def APure (C : Cx) (f : FuncId) (xs : List PV) (v : PV) : Prop :=
  HasBody C f ∧ ∀ (w : World) (ok : Nat → Prop) (us : List Value), (∀ b, ok b → b < w.heap.size) → GlobOk C w ok → RepL w ok xs us →
    Calls C.P f us.toArray w (fun e w' => ∃ u, e = .returned u ∧ Below w.heap.size w w' ∧ Rep w' (grow ok w w') v u)

theorem APure.weaken {C : Cx} {f : FuncId} {xs xs' : List PV} {v v' : PV} (h : APure C f xs v) (hx : PLeL xs' xs) (hv : PLe v v') : APure C f xs' v' :=
  ⟨h.1, fun w ok us ho hg hr => (h.2 w ok us ho hg (hx.rep hr)).mono fun e w' ⟨u, he, hb, hu⟩ => ⟨u, he, hb, hv _ _ _ hu⟩⟩

structure Env where
  ok : Nat → Prop
  β : Nat → Option Nat
  ν : Nat → Option Value

/-- What a closure holds that may write: a pure value, or a place in a frame's own box. -/
inductive Cap where
  | p (x : PV)
  | box (n off : Nat)
  deriving Inhabited
/-- What a slot of a frame holds: a pure value; a place in the frame's own box n; the frame's own row n; a place in it. -/
inductive SV where
  | p (x : PV)
  | box (n off : Nat)
  | own (n : Nat)
  | rowp (n off : Nat)
  | clo (g : FuncId) (cs : List Cap)
  | bnd (g : FuncId) (cs : List Cap)
  deriving Inhabited
def CapRep (w : World) (E : Env) : Cap → Value → Prop
  | .p x, u => Rep w E.ok x u
  | .box n off, u => ∃ g, E.β n = some g ∧ u = .pointer (some ⟨g, off, none⟩)
def SRep (w : World) (E : Env) : SV → Value → Prop
  | .p x, u => Rep w E.ok x u
  | .box n off, u => ∃ g, E.β n = some g ∧ u = .pointer (some ⟨g, off, none⟩)
  | .own n, u => E.ν n = some u
  | .rowp n off, u => ∃ g len cap, E.ν n = some (.slice (some ⟨g, 0, none⟩) len cap) ∧ u = .pointer (some ⟨g, off, none⟩)
  | .clo g cs, u => ∃ us : List Value, u = .func (.func g) #[] us.toArray ∧ us.length = cs.length ∧ ∀ (j : Nat) (c : Cap) (x : Value), cs[j]? = some c → us[j]? = some x → CapRep w E c x
  | .bnd g cs, u => ∃ us : List Value, u = .func (.func g) us.toArray #[] ∧ us.length = cs.length ∧ ∀ (j : Nat) (c : Cap) (x : Value), cs[j]? = some c → us[j]? = some x → CapRep w E c x
def SRepL (w : World) (E : Env) (xs : List SV) (us : List Value) : Prop :=
  us.length = xs.length ∧ ∀ (j : Nat) (x : SV) (u : Value), xs[j]? = some x → us[j]? = some u → SRep w E x u
theorem SRepL.nil {w : World} {E : Env} : SRepL w E [] [] := ⟨rfl, fun j c u h => by simp at h⟩
theorem SRepL.cons {w : World} {E : Env} {c : SV} {u : Value} {cs : List SV} {us : List Value} (h : SRep w E c u) (hs : SRepL w E cs us) : SRepL w E (c :: cs) (u :: us) :=
  ⟨by simp [hs.1], fun j c' u' hc hu => by
    cases j with
    | zero => simp at hc hu; subst hc; subst hu; exact h
    | succ j => simp at hc hu; exact hs.2 j c' u' hc hu⟩
theorem SRepL.uncons {w : World} {E : Env} {c : SV} {cs : List SV} {us : List Value} (h : SRepL w E (c :: cs) us) : ∃ u us', us = u :: us' ∧ SRep w E c u ∧ SRepL w E cs us' := by
  cases us with
  | nil => have := h.1; simp at this
  | cons u us =>
    exact ⟨u, us, rfl, h.2 0 c u rfl rfl, by have := h.1; simpa using this, fun j c' u' hc hu => h.2 (j + 1) c' u' (by simpa using hc) (by simpa using hu)⟩
theorem SRepL.unnil {w : World} {E : Env} {us : List Value} (h : SRepL w E [] us) : us = [] := List.eq_nil_of_length_eq_zero (by simpa using h.1)

/-- What a loop's record says of its round. -/
inductive Jmp where
  | ret
  | exit (id : Nat)
  deriving Inhabited
def Jmp.code : Jmp → Code
  | .ret => .ret
  | .exit id => .exit id
inductive LSt where
  | ready | busy
  | done (j : Jmp)
  deriving Inhabited
/-- The pieces of a range over a function. -/
structure LpC where
  ps : Array Tmp
  assign : Code
  body : Code
/-- What a frame owns that is no cells: a walk along a string; a map; a loop's record; the block for its rounds' deferred calls. -/
inductive Ob where
  | siter (g : Nat) (s : ByteArray) (pos : Nat)
  | mp (g : Nat) (es : List (ByteArray × Value))
  | loop (g : Nat) (st : LSt) (nt : Nat) (sn : List (Nat × SV)) (L : LpC)
  | dfr (g : Nat)
  | hold (g : Nat) (T : Nat) (x : SV)
  | hst (g : Nat) (T : Nat) (nc : Nat) (sn : List (Nat × SV))
def Ob.blk : Ob → Nat
  | .siter g _ _ => g
  | .mp g _ => g
  | .loop g _ _ _ _ => g
  | .dfr g => g
  | .hold g _ _ => g
  | .hst g _ _ _ => g
/-- A variable that holds a row of the frame's own. -/
def Ob.isHold : Ob → Bool
  | .hold _ _ _ => true
  | .hst _ _ _ _ => true
  | _ => false
def LSt.Is : LSt → Loop → Prop
  | .ready, r => r.state = .ready ∧ r.pending = none
  | .busy, r => r.state = .busy
  | .done j, r => r.state = .done ∧ r.pending = some j.code
def Ob.Is (w : World) (E : Env) : Ob → Obj → Prop
  | .siter _ s pos, o => o = .stringIter s pos
  | .mp _ es, o => ∃ (ents : Array MapEntry) (clock : Nat), o = .map ents clock ∧ ents.toList.map (fun e => (e.key, e.val)) = es.map fun p => (Value.string p.1, p.2)
  | .loop _ st nt sn L, o => ∃ r : Loop, o = .loop r ∧ r.params = L.ps ∧ r.assign = L.assign ∧ r.body = L.body ∧ st.Is r ∧ r.tmps.size = nt ∧ ∀ t v, look sn t = some v → t < nt ∧ SRep w E v (r.tmps.getD t undef)
  | .dfr _, o => o = .deferred (some [])
  | .hold _ T x, o => ∃ u : Value, SRep w E x u ∧ o = .cells #[u] T (0, 0)
  | .hst _ T nc sn, o => ∃ us : List Value, us.length = nc ∧ o = .cells us.toArray T (0, 0) ∧ ∀ t v, look sn t = some v → t < nc ∧ SRep w E v (us.toArray.getD t undef)
/-- A frame: its slots; its boxes (type, cells); its rows (element type, cells an element, elements); the next name. -/
structure AS where
  fr : List (Nat × SV)
  bx : List (Nat × (Nat × List PV))
  rw : List (Nat × (Nat × Nat × List (List PV)))
  nx : Nat
  sv : List (Nat × SV) := []
  ob : List (Nat × Ob) := []
  df : List Nat := []
/-- What stays through a call: the blocks that stayed when it began, and what the frames above hold. -/
structure Base where
  ok : Nat → Prop
  sv : Nat → Value
instance : CoeFun Base (fun _ => Nat → Prop) := ⟨Base.ok⟩

/-- The frame's own memory. -/
structure Mem (s : AS) (B : Nat) (w : World) (E : Env) : Prop where
  bx : ∀ n T cs, look s.bx n = some (T, cs) → ∃ g us, E.β n = some g ∧ B ≤ g ∧ ¬ E.ok g ∧ w.heap[g]? = some (.cells us.toArray T (0, 0)) ∧ RepL w E.ok cs us
  rw : ∀ n e sz xs, look s.rw n = some (e, sz, xs) → ∃ v us, E.ν n = some v ∧ w.ownsRow B e sz v xs.length us ∧ (∀ x ∈ xs, x.length = sz) ∧ RepL w E.ok xs.flatten us ∧ ∀ g, v.ownBlock = some g → ¬ E.ok g
  ob : ∀ n o, look s.ob n = some o → B ≤ o.blk ∧ ¬ E.ok o.blk ∧ ∃ x : Obj, w.heap[o.blk]? = some x ∧ (o.isHold = true → E.β n = some o.blk) ∧ o.Is w E x

/-- What an operation may come to: a value, or a call that returns one; the world has only grown. -/
def VPost (C : Cx) (w : World) (E : Env) (v : SV) : Result Next → Prop
  | .ok (.value u) w' => Below w.heap.size w w' ∧ SRep w' { E with ok := grow E.ok w w' } v u
  | .ok (.enter f args) w' => w' = w ∧ Calls C.P f args w (fun e w'' => ∃ u, e = .returned u ∧ Below w.heap.size w w'' ∧ SRep w'' { E with ok := grow E.ok w w'' } v u)
  | _ => False
/-- An operation, its operands told, gives v. -/
def VOk (C : Cx) (s : AS) (o : Oper) (xs : List SV) (v : SV) : Prop :=
  ∀ (B : Nat) (w : World) (E : Env) (us : List Value) (a : Act), Mem s B w E → B ≤ w.heap.size → (∀ b, E.ok b → b < w.heap.size) → GlobOk C w E.ok → SRepL w E xs us →
    o.op.operands.toList.map a.eval = us → VPost C w E v ((execOp a.eval o).run C.P w)

theorem VPost.same {C : Cx} {w : World} {E : Env} {v : SV} {u : Value} (h : SRep w E v u) : VPost C w E v (.ok (.value u) w) := by
  refine ⟨Below.refl _ _, ?_⟩
  cases v with
  | p x => exact Rep.ext h (fun b hb => .inl hb) (fun _ _ => rfl)
  | box n off => exact h
  | own n => exact h
  | rowp n off => exact h
  | clo g cs =>
    obtain ⟨us, rfl, hl, hc⟩ := h
    refine ⟨us, rfl, hl, fun j c x h1 h2 => ?_⟩
    have := hc j c x h1 h2
    cases c with
    | p y => exact Rep.ext this (fun b hb => .inl hb) (fun _ _ => rfl)
    | box n off => exact this
  | bnd g cs =>
    obtain ⟨us, rfl, hl, hc⟩ := h
    refine ⟨us, rfl, hl, fun j c x h1 h2 => ?_⟩
    have := hc j c x h1 h2
    cases c with
    | p y => exact Rep.ext this (fun b hb => .inl hb) (fun _ _ => rfl)
    | box n off => exact this
/-- An operation that does not look at the world. -/
theorem VPost.run {C : Cx} {w : World} {E : Env} {v : SV} {e : Sem Value} {u : Value} (hr : e.run C.P w = .ok u w) (h : SRep w E v u) :
    VPost C w E v ((do pure (Next.value (← e)) : Sem Next).run C.P w) := by
  simp only [Sem.run_bind, hr, Result.andThen_ok, Sem.run_pure]
  exact VPost.same h

/-! ### The evaluation -/
def wrapK : IntKind → Int → Int
  | .i64, n => wrap64 n
  | k, n => k.wrap n
theorem wrapK_eq (k : IntKind) (n : Int) : k.wrap n = wrapK k n := by cases k <;> first | exact IntWalk.i64_left n | rfl

def takeK : List PV → Nat → (List PV → Prop) → Prop
  | _, 0, k => k []
  | c :: cs, n + 1, k => takeK cs n fun l => k (c :: l)
  | [], _ + 1, _ => False
def dropK : List PV → Nat → (List PV → Prop) → Prop
  | cs, 0, k => k cs
  | _ :: cs, n + 1, k => dropK cs n k
  | [], _ + 1, _ => False
def nthK {α : Type} : List α → Nat → (α → Prop) → Prop
  | x :: _, 0, k => k x
  | _ :: xs, n + 1, k => nthK xs n k
  | [], _, _ => False
theorem takeK_sound : ∀ {cs : List PV} {n : Nat} {k : List PV → Prop}, takeK cs n k → n ≤ cs.length ∧ k (cs.take n)
  | cs, 0, k, h => ⟨Nat.zero_le _, by simpa [takeK] using h⟩
  | c :: cs, n + 1, k, h => by
    have := takeK_sound (cs := cs) (n := n) (k := fun l => k (c :: l)) h
    exact ⟨by simpa using this.1, by simpa using this.2⟩
  | [], n + 1, k, h => h.elim
theorem dropK_sound : ∀ {cs : List PV} {n : Nat} {k : List PV → Prop}, dropK cs n k → n ≤ cs.length ∧ k (cs.drop n)
  | cs, 0, k, h => ⟨Nat.zero_le _, by simpa [dropK] using h⟩
  | c :: cs, n + 1, k, h => by
    have := dropK_sound (cs := cs) (n := n) (k := k) h
    exact ⟨by simpa using this.1, by simpa using this.2⟩
  | [], n + 1, k, h => h.elim
theorem nthK_sound {α : Type} : ∀ {cs : List α} {n : Nat} {k : α → Prop}, nthK cs n k → ∃ c, cs[n]? = some c ∧ k c
  | c :: cs, 0, k, h => ⟨c, rfl, h⟩
  | c :: cs, n + 1, k, h => by
    obtain ⟨c', h1, h2⟩ := nthK_sound (cs := cs) (n := n) (k := k) h
    exact ⟨c', by simpa using h1, h2⟩
  | [], n, k, h => by cases n <;> exact h.elim
def lookK {α : Type} : List (Nat × α) → Nat → (α → Prop) → Prop
  | [], _, _ => False
  | (n, x) :: r, t, k => bif Nat.beq n t then k x else lookK r t k
theorem lookK_sound {α : Type} : ∀ {l : List (Nat × α)} {t : Nat} {k : α → Prop}, lookK l t k → ∃ x, look l t = some x ∧ k x
  | (n, x) :: r, t, k, h => by
    unfold lookK at h
    unfold look
    cases hb : Nat.beq n t with
    | true => rw [hb] at h; exact ⟨x, rfl, h⟩
    | false => rw [hb] at h; exact lookK_sound h
  | [], t, k, h => h.elim

/-- The cells behind a place. -/
def placeK (s : AS) : SV → (List PV → Prop) → Prop
  | .p (.ref cs), k => k cs
  | .box n off, k => lookK s.bx n fun x => dropK x.2 off k
  | .rowp n off, k => lookK s.rw n fun x => SEx (fun l => l = x.2.2.flatten) fun l => dropK l off k
  | _, _ => False
def loadK (ti : TI) (cs : List PV) (k : SV → Prop) : Prop :=
  match ti.kind.agg with
  | true => takeK cs ti.size fun l => k (.p (.agg l))
  | false => match cs with
    | c :: _ => k (.p c)
    | [] => False
/-- .. of field number i of type S. -/
def fieldK (ti : TI) (i : Nat) (k : Nat × Nat → Prop) : Prop :=
  match ti.kind with
  | .struct fs => nthK fs i k
  | _ => False
def partK (C : Cx) (cs : List PV) (off t : Nat) (k : SV → Prop) : Prop :=
  lookK C.tab t fun ti => dropK cs off fun l => loadK ti l k

def intOpK (op : BinOp) (q : IntKind) (x y : Int) (k : PV → Prop) : Prop :=
  match op with
  | .add => k (.v (.int q (wrapK q (x + y))))
  | .sub => k (.v (.int q (wrapK q (x - y))))
  | .mul => k (.v (.int q (wrapK q (x * y))))
  | .quo => SAnd (y ≠ 0) (k (.v (.int q (wrapK q (x.tdiv y)))))
  | .rem => SAnd (y ≠ 0) (k (.v (.int q (x.tmod y))))
  | .and => k (.v (.int q (bits .and q x y)))
  | .or => k (.v (.int q (bits .or q x y)))
  | .xor => k (.v (.int q (bits .xor q x y)))
  | .andNot => k (.v (.int q (bits .andNot q x y)))
  | .eql => SBool (x = y) (k (Bo true)) (k (Bo false))
  | .neq => SBool (x = y) (k (Bo false)) (k (Bo true))
  | .lss => SBool (x < y) (k (Bo true)) (k (Bo false))
  | .leq => SBool (x ≤ y) (k (Bo true)) (k (Bo false))
  | .gtr => SBool (y < x) (k (Bo true)) (k (Bo false))
  | .geq => SBool (y ≤ x) (k (Bo true)) (k (Bo false))
  | _ => False
def BinOp.tests : BinOp → Bool
  | .eql | .neq | .lss | .leq | .gtr | .geq => true
  | _ => false
/-- An operation on values that look at no memory: what it gives is told by the prover. -/
def runK (P : Program) (e : Sem Value) (test : Bool) (k : PV → Prop) : Prop :=
  match test with
  | true => SEx (fun b : Bool => ∀ w, e.run P w = .ok (.bool b) w) fun b => SBool (b = true) (k (Bo true)) (k (Bo false))
  | false => SEx (fun r : Value => ∀ w, e.run P w = .ok r w) fun r => k (.v r)
/-- Two structs or arrays are equal, or not. -/
def EqAgg (C : Cx) (t : Nat) (xs ys : List PV) (b : Bool) : Prop :=
  ∀ (x y : Operand) (w : World) (ok : Nat → Prop) (us vs : List Value), RepL w ok xs us → RepL w ok ys vs →
    (eqGuard .eql t x y (.agg us.toArray) (.agg vs.toArray)).run C.P w = .ok () w ∧ (eqGuard .neq t x y (.agg us.toArray) (.agg vs.toArray)).run C.P w = .ok () w ∧
      (Op.equal t (.agg us.toArray) (.agg vs.toArray)).run C.P w = .ok b w
def plainV : Value → Bool
  | .agg _ | .nilIface | .iface .. | .tuple _ => false
  | _ => true
def binK (C : Cx) (op : BinOp) (t : Nat) (x y : SV) (k : PV → Prop) : Prop :=
  match x, y with
  | .p (.v (.int q n)), .p (.v (.int q' m)) =>
    match op with
    | .shl => SAnd (0 ≤ m ∧ m ≤ q.bits) (k (.v (.int q (wrapK q (n * 2 ^ m.toNat)))))
    | .shr => SAnd (0 ≤ m ∧ m ≤ q.bits) (k (.v (.int q (n / 2 ^ m.toNat))))
    | _ => bif decide (q = q') then intOpK op q n m k else False
  | .p (.v u), .p (.v u') => bif plainV u && plainV u' then runK C.P (binOp op t u u') (BinOp.tests op) k else False
  | .p (.agg xs), .p (.agg ys) =>
    match op with
    | .eql => SEx (fun b : Bool => EqAgg C t xs ys b) fun b => SBool (b = true) (k (Bo true)) (k (Bo false))
    | .neq => SEx (fun b : Bool => EqAgg C t xs ys b) fun b => SBool (b = true) (k (Bo false)) (k (Bo true))
    | _ => False
  | _, _ => False
def unK (P : Program) (op : UnOp) (x : SV) (k : PV → Prop) : Prop :=
  match op, x with
  | .neg, .p (.v (.int q n)) => k (.v (.int q (wrapK q (0 - n))))
  | .not, .p (.v (.bool true)) => k (Bo false)
  | .not, .p (.v (.bool false)) => k (Bo true)
  | op, .p (.v u) => runK P (Op.unary op u) false k
  | _, _ => False
/-- Cells that are bytes: their numbers. -/
def u8K : List PV → (List Int → Prop) → Prop
  | [], k => k []
  | .v (.int .u8 n) :: cs, k => u8K cs fun l => k (n :: l)
  | _ :: _, _ => False
theorem u8K_sound : ∀ {cs : List PV} {k : List Int → Prop}, u8K cs k → ∃ ns : List Int, cs = (ns.map fun n => PV.v (.int .u8 n)) ∧ k ns := by
  intro cs
  induction cs with
  | nil => intro k h; exact ⟨[], rfl, h⟩
  | cons c cs ih =>
    intro k h
    unfold u8K at h
    split at h
    · rename_i e; cases e
    · rename_i e
      cases e
      obtain ⟨ns, h1, h2⟩ := ih h
      exact ⟨_ :: ns, by rw [h1]; rfl, h2⟩
    · exact h.elim
def convK (C : Cx) (src dst : Nat) (x : SV) (k : PV → Prop) : Prop :=
  match x with
  | .p (.v (.int q n)) => lookK C.tab src fun _ => lookK C.tab dst fun ti =>
      match ti.kind with
      | .int q' => k (.v (.int q' (wrapK q' n)))
      | _ => runK C.P (convert src dst (.int q n)) false k
  | .p (.v u) => runK C.P (convert src dst u) false k
  | .p (.seq 1 (y :: ys)) => lookK C.tab src fun ta =>
      match ta.kind with
      | .slice e => lookK C.tab e fun te =>
        match te.kind with
        | .int .u8 => lookK C.tab dst fun td =>
          match td.kind with
          | .string => u8K (y :: ys).flatten fun ns => k (.v (.string (strOfNums ns)))
          | _ => False
        | _ => False
      | _ => False
  | _ => False
/-- Cells off ..: as many as the new ones are put in their place. -/
def putK : List PV → Nat → List PV → (List PV → Prop) → Prop
  | cs, _, [], k => k cs
  | _ :: cs, 0, d :: ds, k => putK cs 0 ds fun l => k (d :: l)
  | c :: cs, n + 1, ds, k => putK cs n ds fun l => k (c :: l)
  | [], _, _ :: _, _ => False
theorem putK_sound : ∀ {cs : List PV} {n : Nat} {ds : List PV} {k : List PV → Prop}, putK cs n ds k → (ds = [] ∨ n + ds.length ≤ cs.length) ∧ ∃ l, k l ∧ l = (if ds = [] then cs else cs.take n ++ ds ++ cs.drop (n + ds.length))
  | cs, n, [], k, h => ⟨.inl rfl, cs, by simpa [putK] using h, by simp⟩
  | c :: cs, 0, d :: ds, k, h => by
    have := putK_sound (cs := cs) (n := 0) (ds := ds) (k := fun l => k (d :: l)) (by simpa [putK] using h)
    obtain ⟨h1, l, h2, h3⟩ := this
    refine ⟨.inr ?_, _, h2, ?_⟩
    · rcases h1 with h1 | h1
      · subst h1; simp
      · simp; omega
    · rw [h3]
      by_cases hd : ds = []
      · subst hd; simp
      · simp [hd]
  | c :: cs, n + 1, d :: ds, k, h => by
    have := putK_sound (cs := cs) (n := n) (ds := d :: ds) (k := fun l => k (c :: l)) (by simpa [putK] using h)
    obtain ⟨h1, l, h2, h3⟩ := this
    refine ⟨.inr ?_, _, h2, ?_⟩
    · rcases h1 with h1 | h1
      · cases h1
      · simp at h1 ⊢; omega
    · rw [h3]
      have e : n + 1 + (ds.length + 1) = (n + (ds.length + 1)) + 1 := by omega
      simp [e]
  | [], n, d :: ds, k, h => by cases n <;> simp [putK] at h
/-- Cells that are one cell each. -/
def onesK : List PV → Prop → Prop
  | [], k => k
  | c :: cs, k => match c with
    | .agg _ | .tup _ => False
    | .v x => bif x.oneCell' then onesK cs k else False
    | _ => onesK cs k
theorem onesK_sound : ∀ {cs : List PV} {k : Prop}, onesK cs k → (∀ c ∈ cs, c.one = true) ∧ k
  | [], k, h => ⟨by simp, h⟩
  | c :: cs, k, h => by
    have key : c.one = true ∧ onesK cs k := by
      cases c with
      | v x =>
        cases hx : x.oneCell' with
        | false => simp [onesK, hx] at h
        | true => exact ⟨hx, by simpa [onesK, hx] using h⟩
      | ref l => exact ⟨rfl, h⟩
      | seq a l => exact ⟨rfl, h⟩
      | fn a l => exact ⟨rfl, h⟩
      | agg l => exact h.elim
      | tup l => exact h.elim
    have := onesK_sound key.2
    refine ⟨fun d hd => ?_, this.2⟩
    rcases List.mem_cons.1 hd with e | hd
    · rw [e]; exact key.1
    · exact this.1 d hd
def cellsK (x : SV) (k : List PV → Prop) : Prop :=
  match x with
  | .p (.agg cs) => k cs
  | .p (.v u) => bif u.oneCell' then k [.v u] else False
  | .p (.ref cs) => k [.ref cs]
  | .p (.seq n xs) => k [.seq n xs]
  | .p (.fn g cs) => k [.fn g cs]
  | _ => False
end Go.Proofs.Ab
end
section
/- The evaluation of one operation that gives a value, and that it is right. -/
set_option linter.unusedVariables false
set_option linter.unusedSimpArgs false
namespace Go.Proofs.Ab
open Go Go.RowKit

def pureK : List SV → (List PV → Prop) → Prop
  | [], k => k []
  | x :: xs, k => match x with
    | .p y => pureK xs fun l => k (y :: l)
    | _ => False
def appK : List PV → List PV → (List PV → Prop) → Prop
  | [], d, k => k d
  | c :: cs, d, k => appK cs d fun l => k (c :: l)
theorem appK_sound : ∀ {cs d : List PV} {k : List PV → Prop}, appK cs d k → k (cs ++ d)
  | [], d, k, h => h
  | c :: cs, d, k, h => appK_sound (cs := cs) (d := d) (k := fun l => k (c :: l)) h
theorem pureK_sound : ∀ {xs : List SV} {k : List PV → Prop}, pureK xs k → ∃ l, k l ∧ xs = l.map SV.p
  | [], k, h => ⟨[], h, rfl⟩
  | x :: xs, k, h => by
    cases x with
    | p y =>
      obtain ⟨l, h1, h2⟩ := pureK_sound (xs := xs) (k := fun l => k (y :: l)) h
      exact ⟨_, h1, by simp [h2]⟩
    | box n off => exact h.elim
    | own n => exact h.elim
    | rowp n off => exact h.elim
    | clo _ _ => exact h.elim
    | bnd _ _ => exact h.elim
theorem SRepL.pures {w : World} {E : Env} {l : List PV} {us : List Value} (h : SRepL w E (l.map SV.p) us) : RepL w E.ok l us :=
  ⟨by simpa using h.1, fun j c u hc hu => h.2 j (.p c) u (by simp [hc]) hu⟩

/-- The arguments of a call; rows of the frame's own among them are lent (then the result must hold no place). -/
def lendK (s : AS) : List SV → (Bool → List PV → Prop) → Prop
  | [], k => k false []
  | x :: xs, k => match x with
    | .p y => lendK s xs fun b l => k b (y :: l)
    | .own n => lookK s.rw n fun q => lendK s xs fun _ l => k true (.seq q.2.1 q.2.2 :: l)
    | _ => False
def callK (C : Cx) (s : AS) (f : SV) (args : List SV) (k : SV → Prop) : Prop :=
  match f with
  | .p (.fn g caps) => lendK s args fun b ps => appK ps caps fun l => match b with
    | false => SEx (fun v => APure C g l v) fun v => k (.p v)
    | true => SEx (fun x : Value => APure C g l (.v x)) fun x => k (.p (.v x))
  | _ => False
def lenK (C : Cx) (s : AS) (t : Nat) (x : SV) (k : SV → Prop) : Prop :=
  lookK C.tab t fun ti => match ti.kind with
    | .slice _ => (match x with
      | .p (.seq _ xs) => k (.p (I xs.length))
      | .p (.v (.slice none 0 0)) => k (.p (I 0))
      | .own n => lookK s.rw n fun r => k (.p (I r.2.2.length))
      | _ => False)
    | .string => (match x with
      | .p (.v (.string b)) => k (.p (I b.size))
      | _ => False)
    | .array n _ => k (.p (I n))
    | _ => False
def builtinK (C : Cx) (s : AS) (b : Builtin) (ts : List Nat) (xs : List SV) (k : SV → Prop) : Prop :=
  match b with
  | .len => (match ts with
    | t :: _ => (match xs with
      | [x] => lenK C s t x k
      | _ => False)
    | [] => False)
  | .max => (match xs with
    | [.p (.v (.int q n)), .p (.v (.int _ m))] => k (.p (.v (.int q (max n m))))
    | [.p (.v (.float q a)), .p (.v (.float q' b))] => SEx (fun r : Value => ∀ w, (Builtin.max2 (.float q a) (.float q' b)).run C.P w = .ok r w) fun r => k (.p (.v r))
    | _ => False)
  | .min => (match xs with
    | [.p (.v (.int q n)), .p (.v (.int _ m))] => k (.p (.v (.int q (min n m))))
    | _ => False)
  | .real => (match xs with
    | [.p (.v (.complex q a _))] => k (.p (.v (.float q a)))
    | _ => False)
  | .imag => (match xs with
    | [.p (.v (.complex q _ b))] => k (.p (.v (.float q b)))
    | _ => False)
  | .complex => (match xs with
    | [.p (.v (.float q a)), .p (.v (.float q' b))] => bif decide (q = q') then k (.p (.v (.complex q a b))) else False
    | _ => False)
  | _ => False
def byteAt (s : ByteArray) (i : Nat) : Int := match s[i]? with | some b => b.toNat | none => 0
def fieldAddrK (C : Cx) (t i : Nat) (x : SV) (k : SV → Prop) : Prop :=
  lookK C.tab t fun ti => fieldK ti i fun f => lookK C.tab f.2 fun tf => match tf.size with
    | 0 => False
    | _ + 1 => match x with
      | .p (.ref cs) => dropK cs f.1 fun l => k (.p (.ref l))
      | .box n off => k (.box n (off + f.1))
      | .rowp n off => k (.rowp n (off + f.1))
      | _ => False
def indexAddrK (C : Cx) (s : AS) (t : Nat) (x : SV) (i : Int) (k : SV → Prop) : Prop :=
  lookK C.tab t fun ti => match ti.kind with
    | .array n e => lookK C.tab e fun te => SAnd (0 ≤ i ∧ i < n) (match x with
        | .p (.ref cs) => dropK cs (i.toNat * te.size) fun l => k (.p (.ref l))
        | .box m off => k (.box m (off + i.toNat * te.size))
        | _ => False)
    | .slice e => lookK C.tab e fun te => match x with
        | .p (.seq sz l) => bif Nat.beq sz te.size then SEx (fun el => 0 ≤ i ∧ l[i.toNat]? = some el) fun el => k (.p (.ref el)) else False
        | .own m => lookK s.rw m fun r => bif Nat.beq r.2.1 te.size then SAnd (0 ≤ i ∧ i < r.2.2.length) (k (.rowp m (i.toNat * te.size))) else False
        | _ => False
    | _ => False
def indexK (C : Cx) (t : Nat) (x : SV) (i : Int) (k : SV → Prop) : Prop :=
  lookK C.tab t fun ti => match ti.kind with
    | .array n e => (match x with
      | .p (.agg cs) => lookK C.tab e fun te => SAnd (0 ≤ i ∧ i < n) (partK C cs (i.toNat * te.size) e k)
      | _ => False)
    | .string => (match x with
      | .p (.v (.string s)) => SAnd (0 ≤ i ∧ i < s.size) (k (.p (.v (.int .u8 (byteAt s i.toNat)))))
      | _ => False)
    | _ => False
/-- Parts of a struct or an array, each at its place. -/
def fillK (place : Nat → (Nat × Nat → Prop) → Prop) : List Nat → List SV → List PV → (List PV → Prop) → Prop
  | [], [], cs, k => k cs
  | i :: is, x :: xs, cs, k => place i fun f => cellsK x fun ds => bif Nat.beq ds.length f.2 && Nat.blt 0 f.2 then putK cs f.1 ds fun l => fillK place is xs l k else False
  | _, _, _, _ => False
def zeroK : List Value → (List PV → Prop) → Prop
  | [], k => k []
  | v :: vs, k => zeroK vs fun l => k (.v v :: l)
theorem zeroK_sound : ∀ {vs : List Value} {k : List PV → Prop}, zeroK vs k → k (vs.map PV.v)
  | [], k, h => h
  | v :: vs, k, h => zeroK_sound (vs := vs) (k := fun l => k (.v v :: l)) h
/-- The types of all fields are told. -/
def tysK (C : Cx) : List (Nat × Nat) → Prop → Prop
  | [], k => k
  | f :: fs, k => lookK C.tab f.2 fun _ => tysK C fs k
def buildK (C : Cx) (t : Nat) (is : List Nat) (xs : List SV) (k : SV → Prop) : Prop :=
  lookK C.tab t fun ti => zeroK ti.zero fun z => match ti.kind with
    | .struct fs => tysK C fs <| fillK (fun i q => nthK fs i fun f => lookK C.tab f.2 fun tf => q (f.1, tf.size)) is xs z fun l => k (.p (.agg l))
    | .array _ e => lookK C.tab e fun te => fillK (fun i q => q (i * te.size, te.size)) is xs z fun l => k (.p (.agg l))
    | _ => False
/-- The elements of a slice that is written out, in their order. -/
def elemsK (sz : Nat) : Nat → List Nat → List SV → (List (List PV) → Prop) → Prop
  | _, [], [], k => k []
  | n, i :: is, x :: xs, k => bif Nat.beq n i then cellsK x fun ds => bif Nat.beq ds.length sz then elemsK sz (n + 1) is xs fun l => k (ds :: l) else False else False
  | _, _, _, _ => False
def buildSliceK (C : Cx) (t n : Nat) (is : List Nat) (xs : List SV) (k : SV → Prop) : Prop :=
  lookK C.tab t fun ti => match ti.kind with
    | .slice e => lookK C.tab e fun te => bif Nat.beq n is.length && Nat.ble (n * te.size) 16777216 && Nat.blt 0 te.size then elemsK te.size 0 is xs fun l => k (.p (.seq te.size l)) else False
    | _ => False
def chunkK (sz : Nat) : Nat → List PV → (List (List PV) → Prop) → Prop
  | 0, _, k => k []
  | n + 1, cs, k => takeK cs sz fun c => dropK cs sz fun r => chunkK sz n r fun l => k (c :: l)
def sliceK (C : Cx) (t : Nat) (x : SV) (lo hi : Option SV) (k : SV → Prop) : Prop :=
  lookK C.tab t fun ti => match ti.kind with
    | .array n e => (match x, lo, hi with
      | .p (.ref cs), none, none => lookK C.tab e fun te => bif Nat.blt 0 te.size && Nat.ble n 16777216 then chunkK te.size n cs fun l => k (.p (.seq te.size l)) else False
      | _, _, _ => False)
    | .string => (match x, lo, hi with
      | .p (.v (.string s)), some (.p (.v (.int _ i))), none => SAnd (0 ≤ i ∧ i ≤ s.size) (k (.p (.v (.string (s.extract i.toNat s.size)))))
      | .p (.v (.string s)), none, some (.p (.v (.int _ j))) => SAnd (0 ≤ j ∧ j ≤ s.size) (k (.p (.v (.string (s.extract 0 j.toNat)))))
      | .p (.v (.string s)), some (.p (.v (.int _ i))), some (.p (.v (.int _ j))) => SAnd (0 ≤ i ∧ i ≤ j ∧ j ≤ s.size) (k (.p (.v (.string (s.extract i.toNat j.toNat)))))
      | _, _, _ => False)
    | .slice e => lookK C.tab e fun te => (match x, lo, hi with
      | .p (.seq sz l), some (.p (.v (.int _ i))), none => bif Nat.beq sz te.size then SAnd (0 ≤ i ∧ i ≤ l.length) (k (.p (.seq sz (l.drop i.toNat)))) else False
      | .p (.seq sz l), none, some (.p (.v (.int _ j))) => bif Nat.beq sz te.size then SAnd (0 ≤ j ∧ j ≤ l.length) (k (.p (.seq sz (l.take j.toNat)))) else False
      | _, _, _ => False)
    | _ => False

def mpGet : List (ByteArray × Value) → ByteArray → Option Value
  | [], _ => none
  | p :: r, k => if k = p.1 then some p.2 else mpGet r k
/-- The first map that the frame owns. -/
def nameK (p : Ob → Bool) : List (Nat × Ob) → (Nat → Prop) → Prop
  | [], _ => False
  | (n, x) :: r, k => bif p x then k n else nameK p r k
theorem nameK_sound {p : Ob → Bool} : ∀ {l : List (Nat × Ob)} {k : Nat → Prop}, nameK p l k → ∃ n, k n
  | (n, x) :: r, k, h => by
    unfold nameK at h
    cases hb : p x with
    | true => rw [hb] at h; exact ⟨n, h⟩
    | false => rw [hb] at h; exact nameK_sound h
  | [], k, h => h.elim
def Ob.isMp : Ob → Bool
  | .mp _ _ => true
  | _ => false
def mpK (l : List (Nat × Ob)) (k : Nat → Nat → List (ByteArray × Value) → Prop) : Prop :=
  nameK Ob.isMp l fun n => lookK l n fun x => match x with
    | .mp g es => k n g es
    | _ => False
theorem mpK_sound {l : List (Nat × Ob)} {k : Nat → Nat → List (ByteArray × Value) → Prop} (h : mpK l k) : ∃ n g es, look l n = some (.mp g es) ∧ k n g es := by
  obtain ⟨n, h⟩ := nameK_sound h
  obtain ⟨x, hx, h⟩ := lookK_sound h
  split at h
  · exact ⟨n, _, _, hx, h⟩
  · exact h.elim
/-- A map with strings for keys, asked. -/
def lookupK (C : Cx) (s : AS) (t : Nat) (x y : SV) (k : SV → Prop) : Prop :=
  match x, y with
  | .p (.v (.map (some g))), .p (.v (.string key)) => mpK s.ob fun _ g' es => SAnd (g' = g) <| lookK C.tab t fun ti => match ti.kind with
    | .map kt et => lookK C.tab kt fun tk => (match tk.kind with
      | .string => lookK C.tab et fun te => (match te.zero with
        | [z] => SAnd (∀ w, (zeroValue et).run C.P w = .ok z w) (match te.kind with
          | .bool => SEx (fun b : Bool => (mpGet es key).getD z = .bool b) fun b => SBool (b = true) (k (.p (Bo true))) (k (.p (Bo false)))
          | _ => SEx (fun r : Value => (mpGet es key).getD z = r) fun r => k (.p (.v r)))
        | _ => False)
      | _ => False)
    | _ => False
  | _, _ => False

/-- An entry, if there is one. -/
def lookE {α : Type} (l : List (Nat × α)) (t : Nat) (k : α → Prop) (no : Prop) : Prop :=
  match l with
  | [] => no
  | (n, x) :: r => bif Nat.beq n t then k x else lookE r t k no
theorem lookE_sound {α : Type} {t : Nat} {k : α → Prop} {no : Prop} : ∀ {l : List (Nat × α)}, lookE l t k no → (∃ x, look l t = some x ∧ k x) ∨ no
  | [], h => .inr h
  | (n, x) :: r, h => by
    unfold lookE at h
    unfold look
    cases hb : Nat.beq n t with
    | true => rw [hb] at h; exact .inl ⟨x, rfl, h⟩
    | false => rw [hb] at h; exact lookE_sound h
/-- Cells off .. of a variable that holds rows, as far as they hold none. -/
def gatK (sn : List (Nat × SV)) : Nat → Nat → (List PV → Prop) → Prop
  | _, 0, k => k []
  | off, n + 1, k => lookK sn off fun v => match v with
    | .p c => gatK sn (off + 1) n fun l => k (c :: l)
    | _ => False
theorem gatK_sound {sn : List (Nat × SV)} : ∀ {n off : Nat} {k : List PV → Prop}, gatK sn off n k → ∃ cs, k cs ∧ cs.length = n ∧ ∀ (j : Nat) (c : PV), cs[j]? = some c → look sn (off + j) = some (.p c)
  | 0, off, k, h => ⟨[], h, rfl, fun j c hc => by simp at hc⟩
  | n + 1, off, k, h => by
    obtain ⟨v, hv, h⟩ := lookK_sound h
    split at h
    · rename_i c
      obtain ⟨cs, hk, hl, hc⟩ := gatK_sound h
      refine ⟨_, hk, by simp [hl], fun j d hd => ?_⟩
      cases j with
      | zero => simp at hd; subst hd; exact hv
      | succ j =>
        have := hc j d (by simpa using hd)
        rw [show off + (j + 1) = off + 1 + j by omega]
        exact this
    · exact h.elim
/-- A load out of a variable that holds a row. -/
def holdK (C : Cx) (s : AS) (t : Nat) (x : SV) (k : SV → Prop) (no : Prop) : Prop :=
  match x with
  | .box n off => lookE s.ob n (fun o => match o with
    | .hold _ _ y => bif Nat.beq off 0 then lookK C.tab t fun ti => match ti.kind.agg with
      | false => k y
      | true => False else no
    | .hst _ _ _ sn => lookK C.tab t fun ti => match ti.kind.agg with
      | false => lookK sn off k
      | true => gatK sn off ti.size fun cs => k (.p (.agg cs))
    | _ => no) no
  | _ => no
def vop (C : Cx) (s : AS) (o : Oper) (xs : List SV) (k : SV → Prop) : Prop :=
  match o.op, xs with
  | .move _, [x] => k x
  | .assign _, [x] => k x
  | .pick _ _ _, [.p (.v (.bool true)), a, b] => k a
  | .pick _ _ _, [.p (.v (.bool false)), a, b] => k b
  | .box _ _, [x] => cellsK x fun cs => k (.p (.ref cs))
  | .load t _, [x] => holdK C s t x k (lookK C.tab t fun ti => placeK s x fun cs => loadK ti cs k)
  | .nilCheck _, [.p (.ref cs)] => k (.p (.ref cs))
  | .nilCheck _, [.box n off] => k (.box n off)
  | .nilCheck _, [.p (.fn g cs)] => k (.p (.fn g cs))
  | .binOp op t _ _ _, [x, y] => binK C op t x y fun r => k (.p r)
  | .unOp op _ _, [x] => unK C.P op x fun r => k (.p r)
  | .convert a b _, [x] => convK C a b x fun r => k (.p r)
  | .makeFunc (.func g) ⟨[]⟩ _, xs => pureK xs fun ps => k (.p (.fn g ps))
  | .extract _ i, [.p (.tup vs)] => nthK vs i fun v => k (.p v)
  | .fieldAddr t _ i, [x] => fieldAddrK C t i x k
  | .field t _ i, [.p (.agg cs)] => lookK C.tab t fun ti => fieldK ti i fun f => partK C cs f.1 f.2 k
  | .indexAddr t _ _, [x, .p (.v (.int _ i))] => indexAddrK C s t x i k
  | .index t _ _, [x, .p (.v (.int _ i))] => indexK C t x i k
  | .build t parts, xs => buildK C t (parts.toList.map (·.1)) xs k
  | .buildSlice t n parts, xs => buildSliceK C t n (parts.toList.map (·.1)) xs k
  | .slice t _ none none none, [x] => sliceK C t x none none k
  | .slice t _ (some _) none none, [x, i] => sliceK C t x (some i) none k
  | .slice t _ none (some _) none, [x, j] => sliceK C t x none (some j) k
  | .slice t _ (some _) (some _) none, [x, i, j] => sliceK C t x (some i) (some j) k
  | .call { callee := .builtin b, argTypes := ts, .. }, xs => builtinK C s b ts.toList xs k
  | .call { callee := .value _, .. }, f :: args => callK C s f args k
  | .lookup t _ _ false, [x, y] => lookupK C s t x y k
  | _, _ => False
end Go.Proofs.Ab
end
section
/- That the model's operations do what the evaluation says: memory, fields, elements, struct and slice literals. -/
set_option linter.unusedVariables false
set_option linter.unusedSimpArgs false
namespace Go.Proofs.Ab
open Go Go.RowKit

theorem addr_add (b o j : Nat) : (⟨b, o, none⟩ : Addr).add j = ⟨b, o + j, none⟩ := by
  unfold Addr.add
  split <;> simp_all

section
variable {P : Program} {t : Nat} {ti : TI}
theorem TI.Ok.isAgg_run (h : TI.Ok P t ti) (w : World) : (isAgg t).run P w = .ok ti.kind.agg w := by
  obtain ⟨d, hd, hk⟩ := h.desc
  simp only [isAgg, Sem.run_bind, run_underlying hd, Result.andThen_ok]
  cases hki : ti.kind <;> rw [hki] at hk <;> cases d <;> simp [TK.is, TK.agg] at hk ⊢
theorem TI.Ok.sizeOf_run (h : TI.Ok P t ti) (w : World) : (sizeOf t).run P w = .ok ti.size w := by
  obtain ⟨i, z, hi, hs, _⟩ := h.info
  simp [sizeOf, typeInfo, hi, hs]
theorem TI.Ok.zero_run (h : TI.Ok P t ti) : ∃ z : Value, z.cells.toList = ti.zero ∧ ∀ w, (zeroValue t).run P w = .ok z w := by
  obtain ⟨i, z, hi, _, _, hz, hc⟩ := h.info
  exact ⟨z, hc, fun w => by simp [zeroValue, typeInfo, hi, hz]⟩
theorem TI.Ok.struct_run {fs : List (Nat × Nat)} (h : TI.Ok P t ti) (hk : ti.kind = .struct fs) :
    ∃ fields : Array Field, P.underlying t = some (.struct fields) ∧ fields.toList.map (fun f => (f.offset, f.type)) = fs := by
  obtain ⟨d, hd, hi⟩ := h.desc
  rw [hk] at hi
  cases d <;> simp [TK.is] at hi
  exact ⟨_, hd, hi⟩
theorem TI.Ok.array_run {n e : Nat} (h : TI.Ok P t ti) (hk : ti.kind = .array n e) : P.underlying t = some (.array n e) := by
  obtain ⟨d, hd, hi⟩ := h.desc
  rw [hk] at hi
  cases d <;> simp [TK.is] at hi
  rw [hd, hi.1, hi.2]
theorem TI.Ok.slice_run {e : Nat} (h : TI.Ok P t ti) (hk : ti.kind = .slice e) : P.underlying t = some (.slice e) := by
  obtain ⟨d, hd, hi⟩ := h.desc
  rw [hk] at hi
  cases d <;> simp [TK.is] at hi
  rw [hd, hi]
theorem TI.Ok.string_run (h : TI.Ok P t ti) (hk : ti.kind = .string) : P.underlying t = some .string := by
  obtain ⟨d, hd, hi⟩ := h.desc
  rw [hk] at hi
  cases d <;> simp [TK.is] at hi
  exact hd
theorem TI.Ok.int_run {q : IntKind} (h : TI.Ok P t ti) (hk : ti.kind = .int q) : P.underlying t = some (.int q) := by
  obtain ⟨d, hd, hi⟩ := h.desc
  rw [hk] at hi
  cases d <;> simp [TK.is] at hi
  rw [hd, hi]
theorem TI.Ok.some_run (h : TI.Ok P t ti) : ∃ d, P.underlying t = some d := let ⟨d, hd, _⟩ := h.desc; ⟨d, hd⟩
end

theorem ref_inv {w : World} {ok : Nat → Prop} {cs : List PV} {u : Value} (h : Rep w ok (.ref cs) u) :
    ∃ b o us, u = .pointer (some ⟨b, o, none⟩) ∧ ok b ∧ RepL w ok cs us ∧ ∀ (j : Nat) (v : Value), us[j]? = some v → w.cell? ⟨b, o + j, none⟩ = some v := by
  cases h with
  | ref _ us b o hok hl hr hc => exact ⟨b, o, us, rfl, hok, ⟨hl, hr⟩, hc⟩
theorem seq_inv {w : World} {ok : Nat → Prop} {sz : Nat} {xs : List (List PV)} {u : Value} (h : Rep w ok (.seq sz xs) u) :
    ∃ A cap us, u = .slice A xs.length cap ∧ xs.length ≤ cap ∧ cap ≤ maxLen ∧ (∀ x ∈ xs, x.length = sz) ∧ RepL w ok xs.flatten us ∧
      (0 < xs.length → ∃ b o, A = some ⟨b, o, none⟩ ∧ ok b ∧ ∀ (j : Nat) (u : Value), us[j]? = some u → w.cell? ⟨b, o + j, none⟩ = some u) := by
  cases h with
  | seq _ _ A len cap us hlen hcap hm hsz hl hr hA =>
    subst hlen
    exact ⟨A, cap, us, rfl, hcap, hm, hsz, ⟨hl, hr⟩, hA⟩
theorem fn_inv {w : World} {ok : Nat → Prop} {g : Nat} {cs : List PV} {u : Value} (h : Rep w ok (.fn g cs) u) : ∃ us : List Value, u = .func (.func g) #[] us.toArray ∧ RepL w ok cs us := by
  cases h with
  | fn _ _ us hl hr => exact ⟨us, rfl, hl, hr⟩
theorem agg_inv {w : World} {ok : Nat → Prop} {cs : List PV} {u : Value} (h : Rep w ok (.agg cs) u) : ∃ us : List Value, u = .agg us.toArray ∧ RepL w ok cs us := by
  cases h with
  | agg _ us hl hr => exact ⟨us, rfl, hl, hr⟩
theorem tup_inv {w : World} {ok : Nat → Prop} {cs : List PV} {u : Value} (h : Rep w ok (.tup cs) u) : ∃ us : List Value, u = .tuple us.toArray ∧ RepL w ok cs us := by
  cases h with
  | tup _ us hl hr => exact ⟨us, rfl, hl, hr⟩
theorem v_inv {w : World} {ok : Nat → Prop} {x u : Value} (h : Rep w ok (.v x) u) : u = x := by
  cases h; rfl

/-- The place in memory that a slot's place is. -/
def At (s : AS) (x : SV) (cs : List PV) : Prop :=
  ∀ (B : Nat) (w : World) (E : Env) (u : Value), Mem s B w E → SRep w E x u →
    ∃ b o us, u = .pointer (some ⟨b, o, none⟩) ∧ RepL w E.ok cs us ∧ ∀ (j : Nat) (v : Value), us[j]? = some v → w.cell? ⟨b, o + j, none⟩ = some v
theorem ownsRow_cells {w : World} {B e sz n : Nat} {v : Value} {us : List Value} (h : w.ownsRow B e sz v n us) {g len cap : Nat} (hv : v = .slice (some ⟨g, 0, none⟩) len cap) :
    ∀ (j : Nat) (u : Value), us[j]? = some u → w.cell? ⟨g, j, none⟩ = some u := by
  intro j u hu
  have := h.cells (g := g) (by rw [hv]; rfl) j u hu
  rwa [addr_add, Nat.zero_add] at this
theorem placeK_sound {s : AS} {x : SV} {k : List PV → Prop} (h : placeK s x k) : ∃ cs, k cs ∧ At s x cs := by
  cases x with
  | p x =>
    cases x with
    | ref cs =>
      refine ⟨cs, h, fun B w E u hM hu => ?_⟩
      obtain ⟨b, o, us, rfl, _, hr, hc⟩ := ref_inv hu
      exact ⟨b, o, us, rfl, hr, hc⟩
    | v y => exact h.elim
    | seq a l => exact h.elim
    | fn a l => exact h.elim
    | agg l => exact h.elim
    | tup l => exact h.elim
  | box n off =>
    obtain ⟨⟨T, cs⟩, hl, hk⟩ := lookK_sound h
    obtain ⟨hle, hk⟩ := dropK_sound hk
    refine ⟨_, hk, fun B w E u hM hu => ?_⟩
    obtain ⟨g, us, hg, _, _, hh, hr⟩ := hM.bx n T cs hl
    obtain ⟨g', hg', rfl⟩ := hu
    rw [hg] at hg'
    injection hg' with hg'
    subst hg'
    refine ⟨g, off, us.drop off, rfl, hr.drop off, fun j v hv => ?_⟩
    rw [cell_of_row w g (off + j) us.toArray T (0, 0) hh]
    simpa using hv
  | clo g cs => exact h.elim
  | bnd _ _ => exact h.elim
  | own n => exact h.elim
  | rowp n off =>
    obtain ⟨⟨e, sz, xs⟩, hl, hk⟩ := lookK_sound h
    obtain ⟨l, rfl, hk⟩ := hk
    obtain ⟨hle, hk⟩ := dropK_sound hk
    refine ⟨_, hk, fun B w E u hM hu => ?_⟩
    obtain ⟨v, us, hv, ho, _, hr, _⟩ := hM.rw n e sz xs hl
    obtain ⟨g, len, cap, hv', rfl⟩ := hu
    rw [hv] at hv'
    injection hv' with hv'
    refine ⟨g, off, us.drop off, rfl, hr.drop off, fun j u hu => ?_⟩
    exact ownsRow_cells ho hv' (off + j) u (by simpa using hu)

/-- What a load gives. -/
def Loads (C : Cx) (t : Nat) (cs : List PV) (v : SV) : Prop :=
  ∀ (w : World) (E : Env) (us : List Value) (b o : Nat), RepL w E.ok cs us → (∀ (j : Nat) (v : Value), us[j]? = some v → w.cell? ⟨b, o + j, none⟩ = some v) →
    ∃ u, (loadVar t ⟨b, o, none⟩).run C.P w = .ok u w ∧ SRep w E v u
theorem loadK_sound {C : Cx} {t : Nat} {ti : TI} (ht : TI.Ok C.P t ti) {cs : List PV} {k : SV → Prop} (h : loadK ti cs k) : ∃ v, k v ∧ Loads C t cs v := by
  unfold loadK at h
  split at h
  · rename_i ha
    obtain ⟨hle, hk⟩ := takeK_sound h
    refine ⟨_, hk, fun w E us b o hr hc => ⟨.agg (us.take ti.size).toArray, ?_, ?_⟩⟩
    · have hlen : (us.take ti.size).length = ti.size := by rw [List.length_take, hr.1]; omega
      have := run_loadCells_list (P := C.P) w ⟨b, o, none⟩ (us.take ti.size) (fun j v hv => by
        rw [addr_add]
        refine hc j v ?_
        rw [List.getElem?_take] at hv
        split at hv
        · exact hv
        · cases hv)
      rw [hlen] at this
      simp [loadVar, ht.isAgg_run, ha, ht.sizeOf_run, this]
    · have := hr.take ti.size
      exact .agg _ _ this.1 this.2
  · rename_i ha
    cases cs with
    | nil => exact h.elim
    | cons c cs =>
      refine ⟨_, h, fun w E us b o hr hc => ?_⟩
      obtain ⟨u, us', rfl, hu, _⟩ := hr.uncons
      have hc0 := hc 0 u rfl
      refine ⟨u, ?_, hu⟩
      simp only [Nat.add_zero] at hc0
      simp [loadVar, ht.isAgg_run, ha, hc0]

/-- A part of a struct or an array that is at hand. -/
def Parts (C : Cx) (t : Nat) (cs : List PV) (off : Nat) (v : SV) : Prop :=
  ∀ (w : World) (E : Env) (us : List Value), RepL w E.ok cs us → ∃ u, (part t us.toArray off).run C.P w = .ok u w ∧ SRep w E v u
theorem partK_sound {C : Cx} (hC : C.Good) {cs : List PV} {off t : Nat} {k : SV → Prop} (h : partK C cs off t k) : ∃ v, k v ∧ Parts C t cs off v := by
  obtain ⟨ti, hl, h⟩ := lookK_sound h
  have ht := tab_ok hC.tab hl
  obtain ⟨hle, h⟩ := dropK_sound h
  unfold loadK at h
  split at h
  · rename_i ha
    obtain ⟨hle2, hk⟩ := takeK_sound h
    refine ⟨_, hk, fun w E us hr => ⟨.agg ((us.drop off).take ti.size).toArray, ?_, ?_⟩⟩
    · simp [part, ht.isAgg_run, ha, ht.sizeOf_run]
      first | done | (rw [List.drop_take]; done) | (rw [List.drop_take]; congr 1; omega)
    · have := (hr.drop off).take ti.size
      exact .agg _ _ this.1 this.2
  · rename_i ha
    cases hd : cs.drop off with
    | nil => rw [hd] at h; exact h.elim
    | cons c cs' =>
      rw [hd] at h
      refine ⟨_, h, fun w E us hr => ?_⟩
      have hr' := hr.drop off
      rw [hd] at hr'
      obtain ⟨u, us', he, hu, _⟩ := hr'.uncons
      have hg : us[off]? = some u := by
        have : (us.drop off)[0]? = some u := by rw [he]; rfl
        simpa using this
      refine ⟨u, ?_, hu⟩
      simp [part, ht.isAgg_run, ha, hg]
end Go.Proofs.Ab
end
section
/- That the model's operations do what the evaluation says: each operation. -/
set_option linter.unusedVariables false
set_option linter.unusedSimpArgs false
namespace Go.Proofs.Ab
open Go Go.RowKit

section
variable {C : Cx} {s : AS} {o : Oper}

theorem ops1 {us : List Value} {u : Value} {x : Operand} {ρ : Operand → Value} (h : [x].map ρ = u :: us) : ρ x = u := by simp at h; exact h.1

/-- One operand, a value that the world is not asked for. -/
theorem vok1 {x : SV} {v : SV} (hop : ∃ A, o.op.operands.toList = [A] ∧ ∀ (w : World) (E : Env) (u : Value) (ρ : Operand → Value) (B : Nat), Mem s B w E → B ≤ w.heap.size → (∀ b, E.ok b → b < w.heap.size) → ρ A = u → SRep w E x u → VPost C w E v ((execOp ρ o).run C.P w)) :
    VOk C s o [x] v := by
  obtain ⟨A, ho, hh⟩ := hop
  intro B w E us a hM hB hok hG hx hus
  obtain ⟨u, us', rfl, hu, hs⟩ := hx.uncons
  rw [ho] at hus
  exact hh w E u a.eval B hM hB hok (ops1 hus) hu
theorem vok2 {x y : SV} {v : SV} (hop : ∃ A A', o.op.operands.toList = [A, A'] ∧ ∀ (w : World) (E : Env) (u u' : Value) (ρ : Operand → Value) (B : Nat), Mem s B w E → B ≤ w.heap.size → (∀ b, E.ok b → b < w.heap.size) → ρ A = u → ρ A' = u' → SRep w E x u → SRep w E y u' → VPost C w E v ((execOp ρ o).run C.P w)) :
    VOk C s o [x, y] v := by
  obtain ⟨A, A', ho, hh⟩ := hop
  intro B w E us a hM hB hok hG hx hus
  obtain ⟨u, us', rfl, hu, hs⟩ := hx.uncons
  obtain ⟨u', us'', rfl, hu', hs'⟩ := hs.uncons
  rw [ho] at hus
  simp at hus
  exact hh w E u u' a.eval B hM hB hok hus.1 hus.2.1 hu hu'
theorem vok3 {x y z : SV} {v : SV} (hop : ∃ A A' A'', o.op.operands.toList = [A, A', A''] ∧ ∀ (w : World) (E : Env) (u u' u'' : Value) (ρ : Operand → Value) (B : Nat), Mem s B w E → B ≤ w.heap.size → (∀ b, E.ok b → b < w.heap.size) → ρ A = u → ρ A' = u' → ρ A'' = u'' → SRep w E x u → SRep w E y u' → SRep w E z u'' → VPost C w E v ((execOp ρ o).run C.P w)) :
    VOk C s o [x, y, z] v := by
  obtain ⟨A, A', A'', ho, hh⟩ := hop
  intro B w E us a hM hB hok hG hx hus
  obtain ⟨u, us', rfl, hu, hs⟩ := hx.uncons
  obtain ⟨u', us'', rfl, hu', hs'⟩ := hs.uncons
  obtain ⟨u'', us''', rfl, hu'', hs''⟩ := hs'.uncons
  rw [ho] at hus
  simp at hus
  exact hh w E u u' u'' a.eval B hM hB hok hus.1 hus.2.1 hus.2.2.1 hu hu' hu''

/-- A new block of cells. -/
theorem vpost_new {w : World} {E : Env} {cs : List PV} {us : List Value} (t : Nat) (hok : ∀ b, E.ok b → b < w.heap.size) (hr : RepL w E.ok cs us) :
    Below w.heap.size w (w.alloc (.cells us.toArray t)) ∧ SRep (w.alloc (.cells us.toArray t)) { E with ok := grow E.ok w (w.alloc (.cells us.toArray t)) } (.p (.ref cs)) (.pointer (some ⟨w.heap.size, 0, none⟩)) := by
  have hb : Below w.heap.size w (w.alloc (.cells us.toArray t)) := (Below.refl _ _).alloc (Nat.le_refl _) _
  refine ⟨hb, ?_⟩
  have h2 := hr.ext (w' := w.alloc (.cells us.toArray t)) (ok' := grow E.ok w (w.alloc (.cells us.toArray t))) (fun b h => .inl h) (fun b h => hb.block b (hok b h))
  refine .ref cs us w.heap.size 0 (.inr ⟨Nat.le_refl _, by simp⟩) h2.1 h2.2 (fun j u hu => ?_)
  rw [Nat.zero_add]
  simpa using hu

theorem vop_box {t : Nat} {A : Operand} (ho : o.op = .box t A) {x : SV} {k : SV → Prop} (h : cellsK x fun cs => k (.p (.ref cs))) : ∃ v, VOk C s o [x] v ∧ k v := by
  have : ∃ cs, k (.p (.ref cs)) ∧ ∀ (w : World) (E : Env) (u : Value), SRep w E x u → RepL w E.ok cs u.cells.toList := by
    cases x with
    | p x =>
      cases x with
      | agg cs => exact ⟨cs, h, fun w E u hu => Rep.cells (p := .agg cs) hu rfl⟩
      | v y =>
        cases hy : y.oneCell' with
        | false => simp [cellsK, hy] at h
        | true => exact ⟨[.v y], by simpa [cellsK, hy] using h, fun w E u hu => Rep.cells (p := .v y) hu (by simpa [PV.one] using hy)⟩
      | ref cs => exact ⟨_, h, fun w E u hu => Rep.cells (p := .ref cs) hu rfl⟩
      | seq n xs => exact ⟨_, h, fun w E u hu => Rep.cells (p := .seq n xs) hu rfl⟩
      | fn g cs => exact ⟨_, h, fun w E u hu => Rep.cells (p := .fn g cs) hu rfl⟩
      | tup vs => exact h.elim
    | box n off => exact h.elim
    | own n => exact h.elim
    | rowp n off => exact h.elim
    | clo _ _ => exact h.elim
    | bnd _ _ => exact h.elim
  obtain ⟨cs, hk, hc⟩ := this
  refine ⟨_, vok1 ⟨A, by rw [ho]; rfl, fun w E u ρ B hM hB hok he hu => ?_⟩, hk⟩
  have hr := hc w E u hu
  have := vpost_new (E := E) t hok hr
  unfold execOp
  rw [ho]
  simp only [Instr.box, newVar, newRow, Sem.run_bind, Sem.run_pure, run_newObj, Result.andThen_ok, he]
  exact this

theorem vop_load0 (hC : C.Good) {t : Nat} {A : Operand} (ho : o.op = .load t A) {x : SV} {k : SV → Prop} (h : lookK C.tab t fun ti => placeK s x fun cs => loadK ti cs k) : ∃ v, VOk C s o [x] v ∧ k v := by
  obtain ⟨ti, hl, h⟩ := lookK_sound h
  obtain ⟨cs, h, hAt⟩ := placeK_sound h
  obtain ⟨v, hk, hL⟩ := loadK_sound (tab_ok hC.tab hl) h
  refine ⟨v, vok1 ⟨A, by rw [ho]; rfl, fun w E u ρ B hM hB hok he hu => ?_⟩, hk⟩
  obtain ⟨b, off, us, rfl, hr, hc⟩ := hAt B w E u hM hu
  obtain ⟨u, hrun, hv⟩ := hL w E us b off hr hc
  unfold execOp
  rw [ho]
  refine VPost.run (u := u) ?_ hv
  simp [Instr.loadAt, he, Instr.sureAddr, hrun]

theorem vop_load (hC : C.Good) {t : Nat} {A : Operand} (ho : o.op = .load t A) {x : SV} {k : SV → Prop} (h : holdK C s t x k (lookK C.tab t fun ti => placeK s x fun cs => loadK ti cs k)) : ∃ v, VOk C s o [x] v ∧ k v := by
  unfold holdK at h
  split at h
  case h_2 => exact vop_load0 hC ho h
  rename_i n off
  rcases lookE_sound h with ⟨y, hy, h⟩ | h
  case inr => exact vop_load0 hC ho h
  split at h
  · rename_i g T z
    cases hb : Nat.beq off 0 with
    | false => rw [hb] at h; exact vop_load0 hC ho h
    | true =>
    rw [hb] at h
    obtain rfl := Nat.eq_of_beq_eq_true hb
    obtain ⟨ti, hl, h⟩ := lookK_sound h
    split at h
    case h_2 => exact h.elim
    rename_i hag
    have ht := tab_ok hC.tab hl
    refine ⟨z, vok1 ⟨A, by rw [ho]; rfl, fun w E u ρ B hM hB hok he hu => ?_⟩, h⟩
    obtain ⟨_, _, q, hq, hh, v, hv, rfl⟩ := hM.ob n _ hy
    obtain ⟨g', hg', rfl⟩ := hu
    have hg2 : E.β n = some g := hh rfl
    rw [hg2] at hg'
    injection hg' with hg'
    subst hg'
    have hq' : w.heap[g]? = some (.cells #[v] T (0, 0)) := hq
    have hcell : w.cell? ⟨g, 0, none⟩ = some v := by
      rw [cell_of_row w g 0 #[v] T (0, 0) hq']
      rfl
    unfold execOp
    rw [ho]
    refine VPost.run (u := v) ?_ hv
    simp [Instr.loadAt, he, Instr.sureAddr, loadVar, ht.isAgg_run, hag, hcell]
  · rename_i g T nc sn
    obtain ⟨ti, hl, h⟩ := lookK_sound h
    have ht := tab_ok hC.tab hl
    split at h
    · rename_i hag
      obtain ⟨z, hz, h⟩ := lookK_sound h
      refine ⟨z, vok1 ⟨A, by rw [ho]; rfl, fun w E u ρ B hM hB hok he hu => ?_⟩, h⟩
      obtain ⟨_, _, q, hq, hh, us, hus, rfl, hsn⟩ := hM.ob n _ hy
      obtain ⟨g', hg', rfl⟩ := hu
      have hg2 : E.β n = some g := hh rfl
      rw [hg2] at hg'
      injection hg' with hg'
      subst hg'
      have hq' : w.heap[g]? = some (.cells us.toArray T (0, 0)) := hq
      obtain ⟨hlt, hv⟩ := hsn off z hz
      have hlt' : off < us.length := by omega
      have hget : us.toArray.getD off undef = us[off] := by simp [Array.getD, hlt']
      rw [hget] at hv
      have hcell : w.cell? ⟨g, off, none⟩ = some us[off] := by
        rw [cell_of_row w g off us.toArray T (0, 0) hq']
        simp [hlt']
      unfold execOp
      rw [ho]
      refine VPost.run (u := us[off]) ?_ hv
      simp [Instr.loadAt, he, Instr.sureAddr, loadVar, ht.isAgg_run, hag, hcell]
    · rename_i hag
      obtain ⟨cs, h, hcl, hcs⟩ := gatK_sound h
      have h' : loadK ti cs k := by
        unfold loadK
        rw [hag]
        have : ∀ (l : List PV) (k : List PV → Prop), k l → takeK l l.length k := by
          intro l
          induction l with
          | nil => intro k hk; exact hk
          | cons c l ih => intro k hk; exact ih (fun l => k (c :: l)) hk
        rw [← hcl]
        exact this cs _ h
      obtain ⟨v, hk, hL⟩ := loadK_sound ht h'
      refine ⟨v, vok1 ⟨A, by rw [ho]; rfl, fun w E u ρ B hM hB hok he hu => ?_⟩, hk⟩
      obtain ⟨_, _, q, hq, hh, us, hus, rfl, hsn⟩ := hM.ob n _ hy
      obtain ⟨g', hg', rfl⟩ := hu
      have hg2 : E.β n = some g := hh rfl
      rw [hg2] at hg'
      injection hg' with hg'
      subst hg'
      have hq' : w.heap[g]? = some (.cells us.toArray T (0, 0)) := hq
      have hlen : ∀ j, j < cs.length → off + j < us.length := fun j hj => by
        have := (hsn (off + j) _ (hcs j cs[j] (List.getElem?_eq_getElem hj))).1
        omega
      have hr : RepL w E.ok cs ((us.drop off).take cs.length) := by
        refine ⟨?_, fun j c u hc hu => ?_⟩
        · rw [List.length_take, List.length_drop]
          rcases Nat.eq_zero_or_pos cs.length with h0 | h0
          · omega
          · have := hlen (cs.length - 1) (by omega)
            omega
        · have hj : j < cs.length := (List.getElem?_eq_some_iff.1 hc).1
          have h1 := hsn (off + j) _ (hcs j c hc)
          have hlt := hlen j hj
          have hget : us.toArray.getD (off + j) undef = us[off + j] := by simp [Array.getD, hlt]
          rw [hget] at h1
          rw [List.getElem?_take, if_pos hj, List.getElem?_drop, List.getElem?_eq_getElem hlt] at hu
          injection hu with hu
          rw [← hu]
          exact h1.2
      obtain ⟨u, hrun, hv⟩ := hL w E _ g off hr (fun j u hu => by
        rw [cell_of_row w g (off + j) us.toArray T (0, 0) hq']
        rw [List.getElem?_take] at hu
        split at hu
        · rw [List.getElem?_drop] at hu
          simpa using hu
        · cases hu)
      unfold execOp
      rw [ho]
      refine VPost.run (u := u) ?_ hv
      simp [Instr.loadAt, he, Instr.sureAddr, hrun]
  · exact vop_load0 hC ho h

theorem vop_field (hC : C.Good) {t i : Nat} {A : Operand} (ho : o.op = .field t A i) {cs : List PV} {k : SV → Prop} (h : lookK C.tab t fun ti => fieldK ti i fun f => partK C cs f.1 f.2 k) :
    ∃ v, VOk C s o [.p (.agg cs)] v ∧ k v := by
  obtain ⟨ti, hl, h⟩ := lookK_sound h
  unfold fieldK at h
  split at h
  case h_2 => exact h.elim
  rename_i fs hki
  obtain ⟨f, hf, h⟩ := nthK_sound h
  obtain ⟨v, hk, hP⟩ := partK_sound hC h
  refine ⟨v, vok1 ⟨A, by rw [ho]; rfl, fun w E u ρ B hM hB hok he hu => ?_⟩, hk⟩
  obtain ⟨us, rfl, hr⟩ := agg_inv hu
  obtain ⟨u, hrun, hv⟩ := hP w E us hr
  obtain ⟨fields, hd, hfs⟩ := (tab_ok hC.tab hl).struct_run hki
  unfold execOp
  rw [ho]
  refine VPost.run (u := u) ?_ hv
  rw [← hfs] at hf
  simp only [List.getElem?_map, Option.map_eq_some_iff] at hf
  obtain ⟨fd, hfd, rfl⟩ := hf
  have hfd' : fields[i]? = some fd := by simpa using hfd
  simp [Instr.field, run_underlying hd, hfd', he, asAgg, hrun]

theorem vop_fieldAddr (hC : C.Good) {t i : Nat} {A : Operand} (ho : o.op = .fieldAddr t A i) {x : SV} {k : SV → Prop} (h : fieldAddrK C t i x k) : ∃ v, VOk C s o [x] v ∧ k v := by
  unfold fieldAddrK at h
  obtain ⟨ti, hl, h⟩ := lookK_sound h
  unfold fieldK at h
  split at h
  case h_2 => exact h.elim
  rename_i fs hki
  obtain ⟨f, hf, h⟩ := nthK_sound h
  obtain ⟨tf, hlf, h⟩ := lookK_sound h
  split at h
  · exact h.elim
  rename_i m hsz
  obtain ⟨fields, hd, hfs⟩ := (tab_ok hC.tab hl).struct_run hki
  rw [← hfs] at hf
  simp only [List.getElem?_map, Option.map_eq_some_iff] at hf
  obtain ⟨fd, hfd, rfl⟩ := hf
  have hfd' : fields[i]? = some fd := by simpa using hfd
  have hrun : ∀ (w : World) (b off : Nat), (Instr.fieldAt t (.pointer (some ⟨b, off, none⟩)) i).run C.P w = .ok (.pointer (some ⟨b, off + fd.offset, none⟩)) w := by
    intro w b off
    have h0 : tf.size ≠ 0 := by omega
    simp [Instr.fieldAt, run_underlying hd, hfd', Instr.sureAddr, fieldPlace, (tab_ok hC.tab hlf).sizeOf_run, h0, addr_add]
  have main : ∀ v, k v → (∀ (w : World) (E : Env) (u : Value), SRep w E x u → ∃ b off, u = .pointer (some ⟨b, off, none⟩) ∧ SRep w E v (.pointer (some ⟨b, off + fd.offset, none⟩))) → ∃ v, VOk C s o [x] v ∧ k v := by
    intro v hk hv
    refine ⟨v, vok1 ⟨A, by rw [ho]; rfl, fun w E u ρ B hM hB hok he hu => ?_⟩, hk⟩
    obtain ⟨b, off, rfl, hr⟩ := hv w E u hu
    unfold execOp
    rw [ho]
    refine VPost.run (u := .pointer (some ⟨b, off + fd.offset, none⟩)) ?_ hr
    rw [he]
    exact hrun w b off
  cases x with
  | p x =>
    cases x with
    | ref cs =>
      obtain ⟨hle, hk⟩ := dropK_sound h
      refine main _ hk (fun w E u hu => ?_)
      obtain ⟨b, off, us, rfl, hok, hr, hc⟩ := ref_inv hu
      have hr' := hr.drop fd.offset
      refine ⟨b, off, rfl, .ref _ (us.drop fd.offset) b _ hok hr'.1 hr'.2 (fun j v hv => ?_)⟩
      rw [Nat.add_assoc]
      exact hc _ v (by simpa using hv)
    | v y => exact h.elim
    | seq a l => exact h.elim
    | fn a l => exact h.elim
    | agg l => exact h.elim
    | tup l => exact h.elim
  | box n off =>
    refine main _ h (fun w E u hu => ?_)
    obtain ⟨g, hg, rfl⟩ := hu
    exact ⟨g, off, rfl, g, hg, rfl⟩
  | own n => exact h.elim
  | clo g cs => exact h.elim
  | bnd _ _ => exact h.elim
  | rowp n off =>
    refine main _ h (fun w E u hu => ?_)
    obtain ⟨g, len, cap, hg, rfl⟩ := hu
    exact ⟨g, off, rfl, g, len, cap, hg, rfl⟩
end
end Go.Proofs.Ab
end
section
/- That the model's operations do what the evaluation says: elements, literals, slices. -/
set_option linter.unusedVariables false
set_option linter.unusedSimpArgs false
namespace Go.Proofs.Ab
open Go Go.RowKit

theorem flat_length {α : Type} {sz : Nat} : ∀ {xs : List (List α)}, (∀ x ∈ xs, x.length = sz) → xs.flatten.length = xs.length * sz
  | [], _ => by simp
  | x :: xs, h => by
    have h1 := h x List.mem_cons_self
    have h2 := flat_length (xs := xs) (fun y hy => h y (List.mem_cons_of_mem _ hy))
    simp only [List.flatten_cons, List.length_append, h1, h2, List.length_cons, Nat.add_mul]
    omega
theorem flat_get {α : Type} {sz : Nat} : ∀ {xs : List (List α)} {i : Nat} {el : List α}, (∀ x ∈ xs, x.length = sz) → xs[i]? = some el → ∀ j, j < sz → xs.flatten[i * sz + j]? = el[j]?
  | [], i, el, _, hi, j, hj => by simp at hi
  | x :: xs, 0, el, h, hi, j, hj => by
    simp at hi
    subst hi
    have h1 := h x List.mem_cons_self
    rw [List.flatten_cons, Nat.zero_mul, Nat.zero_add, List.getElem?_append_left (by omega)]
  | x :: xs, i + 1, el, h, hi, j, hj => by
    have h1 := h x List.mem_cons_self
    have h2 := flat_get (xs := xs) (i := i) (el := el) (fun y hy => h y (List.mem_cons_of_mem _ hy)) (by simpa using hi) j hj
    rw [List.flatten_cons, List.getElem?_append_right (by rw [h1, Nat.add_mul]; omega), h1]
    have : (i + 1) * sz + j - sz = i * sz + j := by rw [Nat.add_mul]; omega
    rw [this, h2]

section
variable {C : Cx} {s : AS} {o : Oper}

theorem run_indexAt_arr {P : Program} {t n e : Nat} {te : TI} (h : P.underlying t = some (.array n e)) (he : TI.Ok P e te) (w : World) (b off : Nat) (q : IntKind) (i : Int) (hi : 0 ≤ i ∧ i < n) :
    (Instr.indexAt t (.pointer (some ⟨b, off, none⟩)) (.int q i)).run P w = .ok (.pointer (some ⟨b, off + i.toNat * te.size, none⟩)) w := by
  simp [Instr.indexAt, asIntOf, run_underlying h, Instr.sureAddr, hi.1, hi.2, he.sizeOf_run, addr_add]
theorem run_indexAt_sl {P : Program} {t e : Nat} {te : TI} (h : P.underlying t = some (.slice e)) (he : TI.Ok P e te) (w : World) (b off len cap : Nat) (q : IntKind) (i : Int) (hi : 0 ≤ i ∧ i < len) :
    (Instr.indexAt t (.slice (some ⟨b, off, none⟩) len cap) (.int q i)).run P w = .ok (.pointer (some ⟨b, off + i.toNat * te.size, none⟩)) w := by
  simp [Instr.indexAt, asIntOf, run_underlying h, hi.1, hi.2, he.sizeOf_run, addr_add]

theorem vop_indexAddr (hC : C.Good) {t : Nat} {A A' : Operand} (ho : o.op = .indexAddr t A A') {x : SV} {q : IntKind} {i : Int} {k : SV → Prop} (h : indexAddrK C s t x i k) :
    ∃ v, VOk C s o [x, .p (.v (.int q i))] v ∧ k v := by
  unfold indexAddrK at h
  obtain ⟨ti, hl, h⟩ := lookK_sound h
  have ht := tab_ok hC.tab hl
  have main : ∀ v, k v → (∀ (w : World) (E : Env) (u : Value) (B : Nat), Mem s B w E → SRep w E x u → ∃ u', (Instr.indexAt t u (.int q i)).run C.P w = .ok u' w ∧ SRep w E v u') → ∃ v, VOk C s o [x, .p (.v (.int q i))] v ∧ k v := by
    intro v hk hv
    refine ⟨v, vok2 ⟨A, A', by rw [ho]; rfl, fun w E u u' ρ B hM hB hok he he' hu hu' => ?_⟩, hk⟩
    obtain ⟨r, hr, hrv⟩ := hv w E u B hM hu
    obtain rfl := v_inv hu'
    unfold execOp
    rw [ho]
    refine VPost.run (u := r) ?_ hrv
    rw [he, he']
    exact hr
  split at h
  · rename_i n e hki
    have hd := ht.array_run hki
    obtain ⟨te, hle, h⟩ := lookK_sound h
    have hte := tab_ok hC.tab hle
    obtain ⟨hi, h⟩ := h
    cases x with
    | p x =>
      cases x with
      | ref cs =>
        obtain ⟨hlen, hk⟩ := dropK_sound h
        refine main _ hk (fun w E u B hM hu => ?_)
        obtain ⟨b, off, us, rfl, hok, hr, hc⟩ := ref_inv hu
        have hr' := hr.drop (i.toNat * te.size)
        refine ⟨_, run_indexAt_arr hd hte w b off q i hi, .ref _ (us.drop (i.toNat * te.size)) b _ hok hr'.1 hr'.2 (fun j v hv => ?_)⟩
        rw [Nat.add_assoc]
        exact hc _ v (by simpa using hv)
      | v y => exact h.elim
      | seq a l => exact h.elim
      | fn a l => exact h.elim
      | agg l => exact h.elim
      | tup l => exact h.elim
    | box n off =>
      refine main _ h (fun w E u B hM hu => ?_)
      obtain ⟨g, hg, rfl⟩ := hu
      exact ⟨_, run_indexAt_arr hd hte w g off q i hi, g, hg, rfl⟩
    | own n => exact h.elim
    | rowp n off => exact h.elim
    | clo _ _ => exact h.elim
    | bnd _ _ => exact h.elim
  · rename_i e hki
    have hd := ht.slice_run hki
    obtain ⟨te, hle, h⟩ := lookK_sound h
    have hte := tab_ok hC.tab hle
    cases x with
    | p x =>
      cases x with
      | seq sz l =>
        simp only at h
        cases hb : Nat.beq sz te.size with
        | false => rw [hb] at h; exact h.elim
        | true =>
          rw [hb] at h
          obtain ⟨el, ⟨hi, hel⟩, hk⟩ := h
          obtain rfl := Nat.eq_of_beq_eq_true hb
          refine main _ hk (fun w E u B hM hu => ?_)
          obtain ⟨A, cap, us, rfl, hcap, hm, hsz, hr, hA⟩ := seq_inv hu
          have hil : i.toNat < l.length := (List.getElem?_eq_some_iff.1 hel).1
          obtain ⟨b, off, rfl, hok, hc⟩ := hA (by omega)
          refine ⟨_, run_indexAt_sl hd hte w b off _ cap q i ⟨hi, by omega⟩, ?_⟩
          have hlen : el.length = te.size := hsz el (List.mem_of_getElem? hel)
          have hfl := flat_length hsz
          have hfit : (i.toNat + 1) * te.size ≤ l.length * te.size := Nat.mul_le_mul_right _ hil
          rw [Nat.add_mul] at hfit
          refine .ref el ((us.drop (i.toNat * te.size)).take te.size) b _ hok (by rw [List.length_take, List.length_drop, hr.1, hfl, hlen]; omega) (fun j c u hc' hu' => ?_) (fun j u hu' => ?_)
          · have hj : j < te.size := by have := (List.getElem?_eq_some_iff.1 hc').1; omega
            rw [List.getElem?_take, if_pos hj, List.getElem?_drop] at hu'
            exact hr.2 _ c u (by rw [flat_get hsz hel j hj]; exact hc') hu'
          · rw [List.getElem?_take] at hu'
            split at hu'
            · rw [List.getElem?_drop] at hu'
              rw [Nat.add_assoc]
              exact hc _ u hu'
            · cases hu'
      | v y => exact h.elim
      | ref a => exact h.elim
      | fn a l => exact h.elim
      | agg l => exact h.elim
      | tup l => exact h.elim
    | box n off => exact h.elim
    | own m =>
      obtain ⟨⟨e', sz, xs⟩, hlr, h⟩ := lookK_sound h
      simp only at h
      cases hb : Nat.beq sz te.size with
      | false => rw [hb] at h; exact h.elim
      | true =>
        rw [hb] at h
        obtain ⟨hi, hk⟩ := h
        obtain rfl := Nat.eq_of_beq_eq_true hb
        refine main _ hk (fun w E u B hM hu => ?_)
        obtain ⟨v, us, hv, ho', hsz, hr, _⟩ := hM.rw m e' te.size xs hlr
        have hu' : E.ν m = some u := hu
        rw [hv] at hu'
        injection hu' with hu'
        subst hu'
        rcases ho'.2 with ⟨rfl, h0⟩ | ⟨g, cap, cur, rfl, _⟩
        · exfalso; omega
        · exact ⟨_, run_indexAt_sl hd hte w g 0 _ cap q i hi, g, _, cap, hv, by simp⟩
    | rowp n off => exact h.elim
    | clo _ _ => exact h.elim
    | bnd _ _ => exact h.elim
  · exact h.elim

theorem run_index_arr {P : Program} {t n e : Nat} {te : TI} (h : P.underlying t = some (.array n e)) (he : TI.Ok P e te) (w : World) (cs : Array Value) (q : IntKind) (i : Int) (hi : 0 ≤ i ∧ i < n) {u : Value} (hp : (part e cs (i.toNat * te.size)).run P w = .ok u w) :
    (Instr.index t (.agg cs) (.int q i)).run P w = .ok u w := by
  simp [Instr.index, asIntOf, run_underlying h, hi.1, hi.2, he.sizeOf_run, hp]
theorem vop_index (hC : C.Good) {t : Nat} {A A' : Operand} (ho : o.op = .index t A A') {x : SV} {q : IntKind} {i : Int} {k : SV → Prop} (h : indexK C t x i k) :
    ∃ v, VOk C s o [x, .p (.v (.int q i))] v ∧ k v := by
  unfold indexK at h
  obtain ⟨ti, hl, h⟩ := lookK_sound h
  have ht := tab_ok hC.tab hl
  have main : ∀ v, k v → (∀ (w : World) (E : Env) (u : Value), SRep w E x u → ∃ u', (Instr.index t u (.int q i)).run C.P w = .ok u' w ∧ SRep w E v u') → ∃ v, VOk C s o [x, .p (.v (.int q i))] v ∧ k v := by
    intro v hk hv
    refine ⟨v, vok2 ⟨A, A', by rw [ho]; rfl, fun w E u u' ρ B hM hB hok he he' hu hu' => ?_⟩, hk⟩
    obtain ⟨r, hr, hrv⟩ := hv w E u hu
    obtain rfl := v_inv hu'
    unfold execOp
    rw [ho]
    refine VPost.run (u := r) ?_ hrv
    rw [he, he']
    exact hr
  split at h
  · rename_i n e hki
    have hd := ht.array_run hki
    split at h
    case h_2 => exact h.elim
    rename_i cs
    obtain ⟨te, hle, h⟩ := lookK_sound h
    have hte := tab_ok hC.tab hle
    obtain ⟨hi, h⟩ := h
    obtain ⟨v, hk, hP⟩ := partK_sound hC h
    refine main v hk (fun w E u hu => ?_)
    obtain ⟨us, rfl, hr⟩ := agg_inv hu
    obtain ⟨r, hrun, hv⟩ := hP w E us hr
    exact ⟨r, run_index_arr hd hte w us.toArray q i hi hrun, hv⟩
  · rename_i hki
    have hd := ht.string_run hki
    split at h
    case h_2 => exact h.elim
    rename_i s' _
    obtain ⟨hi, h⟩ := h
    refine main _ h (fun w E u hu => ?_)
    obtain rfl := v_inv hu
    have hlt : i.toNat < s'.size := by omega
    refine ⟨_, ?_, .v _⟩
    have hg : s'[i.toNat]? = some s'[i.toNat] := by simp [hlt]
    simp [Instr.index, asIntOf, run_underlying hd, hi.1, hg, byteAt]
  · exact h.elim

/-- What fill makes of parts. -/
theorem fill_parts {w : World} {ok : Nat → Prop} : ∀ (parts : List (Nat × Value)) (place : Nat → Option (Nat × Nat)) (cells : Array Value) (i off : Nat) (v : Value) (rest : List (Nat × Value)),
    place i = some (off, v.cells.size) → off + v.cells.size ≤ cells.size → Instr.fill place cells ((i, v) :: rest) = Instr.fill place (v.cells.zipIdx.foldl (fun cs (c, j) => cs.setIfInBounds (off + j) c) cells) rest := by
  intro parts place cells i off v rest hp hle
  rw [Instr.fill]
  simp only [hp]
  rw [if_neg]
  simp
  omega
theorem foldl_set (off : Nat) : ∀ (vs : List Value) (n : Nat) (cells : Array Value), off + n + vs.length ≤ cells.size →
    ((vs.zipIdx n).foldl (fun cs (c, j) => cs.setIfInBounds (off + j) c) cells).toList = cells.toList.take (off + n) ++ vs ++ cells.toList.drop (off + n + vs.length)
  | [], n, cells, h => by simp
  | v :: vs, n, cells, h => by
    simp only [List.zipIdx_cons, List.foldl_cons]
    have h2 : off + (n + 1) + vs.length ≤ (cells.setIfInBounds (off + n) v).size := by simp at h ⊢; omega
    rw [foldl_set off vs (n + 1) _ h2]
    have hlt : off + n < cells.toList.length := by simp at h ⊢; omega
    simp only [Array.toList_setIfInBounds]
    rw [show off + (n + 1) = (off + n) + 1 by omega]
    rw [List.take_succ_eq_append_getElem (by simpa using hlt)]
    simp only [List.getElem_set_self, List.take_set_of_le (Nat.le_refl _)]
    rw [List.drop_set_of_lt (by omega)]
    simp only [List.length_cons, List.append_assoc, List.cons_append, List.nil_append]
    rw [show off + n + 1 + vs.length = off + n + (vs.length + 1) by omega]
theorem foldl_set' (off : Nat) (v : Array Value) (cells : Array Value) (h : off + v.size ≤ cells.size) :
    (v.zipIdx.foldl (fun cs (c, j) => cs.setIfInBounds (off + j) c) cells).toList = cells.toList.take off ++ v.toList ++ cells.toList.drop (off + v.size) := by
  have := foldl_set off v.toList 0 cells (by simpa using h)
  rw [← Array.foldl_toList, Array.toList_zipIdx]
  simpa using this

/-- The cells of a literal: each part at its place. -/
theorem fillK_sound {placeQ : Nat → (Nat × Nat → Prop) → Prop} {place : Nat → Option (Nat × Nat)} (hp : ∀ i (q : Nat × Nat → Prop), placeQ i q → ∃ f, place i = some f ∧ q f) :
    ∀ {is : List Nat} {xs : List SV} {cs : List PV} {k : List PV → Prop}, fillK placeQ is xs cs k → ∃ l, k l ∧ ∀ (w : World) (E : Env) (us : List Value) (cells : Array Value),
      SRepL w E xs us → RepL w E.ok cs cells.toList → ∃ out, Instr.fill place cells (is.zip us) = some out ∧ RepL w E.ok l out.toList
  | [], [], cs, k, h => ⟨cs, h, fun w E us cells hx hr => ⟨cells, by simp [Instr.fill], hr⟩⟩
  | i :: is, x :: xs, cs, k, h => by
    obtain ⟨f, hf, h⟩ := hp i _ h
    have hcells : ∃ ds, (bif Nat.beq ds.length f.2 && Nat.blt 0 f.2 then putK cs f.1 ds fun l => fillK placeQ is xs l k else False) ∧ ∀ (w : World) (E : Env) (u : Value), SRep w E x u → RepL w E.ok ds u.cells.toList := by
      cases x with
      | p x =>
        cases x with
        | agg cs => exact ⟨cs, h, fun w E u hu => Rep.cells (p := .agg cs) hu rfl⟩
        | v y =>
          cases hy : y.oneCell' with
          | false => simp [cellsK, hy] at h
          | true => exact ⟨[.v y], by simpa [cellsK, hy] using h, fun w E u hu => Rep.cells (p := .v y) hu (by simpa [PV.one] using hy)⟩
        | ref cs => exact ⟨_, h, fun w E u hu => Rep.cells (p := .ref cs) hu rfl⟩
        | seq n xs => exact ⟨_, h, fun w E u hu => Rep.cells (p := .seq n xs) hu rfl⟩
        | fn g cs => exact ⟨_, h, fun w E u hu => Rep.cells (p := .fn g cs) hu rfl⟩
        | tup vs => exact h.elim
      | box n off => exact h.elim
      | own n => exact h.elim
      | rowp n off => exact h.elim
      | clo _ _ => exact h.elim
      | bnd _ _ => exact h.elim
    obtain ⟨ds, h, hds⟩ := hcells
    cases hb : Nat.beq ds.length f.2 && Nat.blt 0 f.2 with
    | false => rw [hb] at h; exact h.elim
    | true =>
      rw [hb] at h
      rw [Bool.and_eq_true] at hb
      have hlen := Nat.eq_of_beq_eq_true hb.1
      have hpos : 0 < f.2 := by simpa [Nat.blt_eq] using hb.2
      have hd0 : ds ≠ [] := fun e => by rw [e] at hlen; simp at hlen; omega
      obtain ⟨hfit, l, h, hl⟩ := putK_sound h
      rw [if_neg hd0] at hl
      obtain ⟨l', hk, hrest⟩ := fillK_sound hp h
      refine ⟨l', hk, fun w E us cells hx hr => ?_⟩
      obtain ⟨u, us', rfl, hu, hs⟩ := hx.uncons
      have hd := hds w E u hu
      have hcl := hr.1
      have e1 : u.cells.size = ds.length := by have := hd.1; simpa using this
      have hle' : f.1 + u.cells.size ≤ cells.size := by
        have := hfit.resolve_left hd0
        simp at hcl
        omega
      have hnew : RepL w E.ok l (u.cells.zipIdx.foldl (fun cs (c, j) => cs.setIfInBounds (f.1 + j) c) cells).toList := by
        rw [foldl_set' f.1 u.cells cells hle', hl, e1]
        exact ((hr.take f.1).append hd).append (hr.drop _)
      obtain ⟨out, ho, hr'⟩ := hrest w E us' _ hs hnew
      refine ⟨out, ?_, hr'⟩
      rw [List.zip_cons_cons, fill_parts (w := w) (ok := E.ok) [] place cells i f.1 u _ (by rw [hf, e1, hlen]) hle']
      exact ho
  | [], _ :: _, cs, k, h => h.elim
  | _ :: _, [], cs, k, h => h.elim
end
end Go.Proofs.Ab
end
section
/- That the model's operations do what the evaluation says: literals, slices, calls, arithmetic. The whole: vop_sound. -/
set_option linter.unusedVariables false
set_option linter.unusedSimpArgs false
namespace Go.Proofs.Ab
open Go Go.RowKit

section
variable {C : Cx} {s : AS} {o : Oper}

theorem parts_map (parts : Array (Nat × Operand)) (ρ : Operand → Value) (us : List Value) (h : ((parts.toList.map (·.2)).toArray).toList.map ρ = us) :
    (parts.map fun (i, x) => (i, ρ x)).toList = (parts.toList.map (·.1)).zip us := by
  subst h
  simp only [Array.toList_map]
  induction parts.toList with
  | nil => rfl
  | cons p l ih => simp_all

theorem tysK_sound {C : Cx} (hC : C.Good) : ∀ {fs : List (Nat × Nat)} {k : Prop}, tysK C fs k → (∀ f ∈ fs, ∃ tf, look C.tab f.2 = some tf) ∧ k
  | [], k, h => ⟨by simp, h⟩
  | f :: fs, k, h => by
    obtain ⟨tf, htf, h⟩ := lookK_sound h
    have := tysK_sound hC h
    refine ⟨fun g hg => ?_, this.2⟩
    rcases List.mem_cons.1 hg with e | hg
    · exact ⟨tf, by rw [e]; exact htf⟩
    · exact this.1 g hg
/-- The places of a struct's fields. -/
def placeOf (C : Cx) (f : Nat × Nat) : Nat × Nat := (f.1, match look C.tab f.2 with | some tf => tf.size | none => 0)
theorem places_run {C : Cx} (hC : C.Good) (w : World) : ∀ (fields : List Field), (∀ f ∈ fields.map (fun f => (f.offset, f.type)), ∃ tf, look C.tab f.2 = some tf) →
    (fields.mapM fun f => (do pure (f.offset, ← sizeOf f.type) : Sem (Nat × Nat))).run C.P w = .ok (fields.map fun f => placeOf C (f.offset, f.type)) w
  | [], _ => rfl
  | f :: fs, h => by
    obtain ⟨tf, htf⟩ := h (f.offset, f.type) (by simp)
    have ih := places_run hC w fs (fun g hg => h g (by simp at hg ⊢; exact .inr hg))
    rw [List.mapM_cons]
    simp only [Sem.run_bind, (tab_ok hC.tab htf).sizeOf_run, Result.andThen_ok, Sem.run_pure, ih, List.map_cons]
    simp only [placeOf, htf]
theorem vop_build (hC : C.Good) {t : Nat} {parts : Array (Nat × Operand)} (ho : o.op = .build t parts) {xs : List SV} {k : SV → Prop} (h : buildK C t (parts.toList.map (·.1)) xs k) :
    ∃ v, VOk C s o xs v ∧ k v := by
  unfold buildK at h
  obtain ⟨ti, hl, h⟩ := lookK_sound h
  have ht := tab_ok hC.tab hl
  have h := zeroK_sound h
  obtain ⟨z, hz, hzr⟩ := ht.zero_run
  have hzrep : ∀ (w : World) (ok : Nat → Prop), RepL w ok (ti.zero.map PV.v) z.cells.toList := by
    intro w ok
    rw [hz]
    refine ⟨by simp, fun j c u hc hu => ?_⟩
    simp only [List.getElem?_map, Option.map_eq_some_iff] at hc
    obtain ⟨x, hx, rfl⟩ := hc
    rw [hx] at hu
    injection hu with hu
    subst hu
    exact .v _
  have main : ∀ (place : Nat → Option (Nat × Nat)) (l : List PV), k (.p (.agg l)) → (∀ (w : World) (E : Env) (us : List Value) (cells : Array Value), SRepL w E xs us → RepL w E.ok (ti.zero.map PV.v) cells.toList →
        ∃ out, Instr.fill place cells ((parts.toList.map (·.1)).zip us) = some out ∧ RepL w E.ok l out.toList) →
      (∀ (w : World) (ps : Array (Nat × Value)) (cells : Array Value), Instr.fill place z.cells ps.toList = some cells → (Instr.build t ps).run C.P w = .ok (.agg cells) w) → ∃ v, VOk C s o xs v ∧ k v := by
    intro place l hk hf hb
    refine ⟨_, fun B w E us a hM hB hok hG hx hus => ?_, hk⟩
    obtain ⟨out, hout, hr⟩ := hf w E us z.cells hx (hzrep w E.ok)
    unfold execOp
    rw [ho]
    refine VPost.run (u := .agg out) (hb w _ _ ?_) ?_
    · rw [parts_map parts a.eval us (by rw [ho] at hus; exact hus)]
      exact hout
    · have : out = out.toList.toArray := by simp
      rw [this]
      exact .agg _ _ hr.1 hr.2
  split at h
  · rename_i fs hki
    obtain ⟨fields, hd, hfs⟩ := ht.struct_run hki
    obtain ⟨hall, h⟩ := tysK_sound hC h
    obtain ⟨l, hk, hf⟩ := fillK_sound (place := fun i => (fs.map (placeOf C))[i]?) (fun i q hq => by
      obtain ⟨f, hf, hq⟩ := nthK_sound hq
      obtain ⟨tf, htf, hq⟩ := lookK_sound hq
      exact ⟨(f.1, tf.size), by simp only [List.getElem?_map, hf, Option.map_some, placeOf, htf], hq⟩) h
    refine main _ l hk hf (fun w ps cells hfill => ?_)
    have hpl := places_run hC w fields.toList (by rw [hfs]; exact hall)
    have hps : (fields.mapM fun f => (do pure (f.offset, ← sizeOf f.type) : Sem (Nat × Nat))).run C.P w = .ok (fs.map (placeOf C)).toArray w := by
      rw [Array.mapM_eq_mapM_toList]
      simp only [Sem.run_map, hpl, Result.andThen_ok]
      rw [← hfs, List.map_map]
      rfl
    have hfill' : Instr.fill (fun x => (fs.map (placeOf C)).toArray[x]?) z.cells ps.toList = some cells := by simpa using hfill
    simp only [Instr.build, Sem.run_bind, hzr, Result.andThen_ok, run_underlying hd, hps, hfill', Sem.run_pure]
  · rename_i n e hki
    have hd := ht.array_run hki
    obtain ⟨te, hle, h⟩ := lookK_sound h
    have hte := tab_ok hC.tab hle
    obtain ⟨l, hk, hf⟩ := fillK_sound (place := fun i => some (i * te.size, te.size)) (fun i q hq => ⟨_, rfl, hq⟩) h
    refine main _ l hk hf (fun w ps cells hfill => ?_)
    simp [Instr.build, hzr, run_underlying hd, hte.sizeOf_run, hfill]
  · exact h.elim
end
end Go.Proofs.Ab
end
section
/- That the model's operations do what the evaluation says: slice literals, slices, calls, arithmetic. The whole: vop_sound. -/
set_option linter.unusedVariables false
set_option linter.unusedSimpArgs false
namespace Go.Proofs.Ab
open Go Go.RowKit

section
variable {C : Cx} {s : AS} {o : Oper}

theorem cellsK_all {x : SV} {k : List PV → Prop} (h : cellsK x k) : ∃ ds, k ds ∧ ∀ (w : World) (E : Env) (u : Value), SRep w E x u → RepL w E.ok ds u.cells.toList := by
  cases x with
  | p x =>
    cases x with
    | agg cs => exact ⟨cs, h, fun w E u hu => Rep.cells (p := .agg cs) hu rfl⟩
    | v y =>
      cases hy : y.oneCell' with
      | false => simp [cellsK, hy] at h
      | true => exact ⟨[.v y], by simpa [cellsK, hy] using h, fun w E u hu => Rep.cells (p := .v y) hu (by simpa [PV.one] using hy)⟩
    | ref cs => exact ⟨_, h, fun w E u hu => Rep.cells (p := .ref cs) hu rfl⟩
    | seq n xs => exact ⟨_, h, fun w E u hu => Rep.cells (p := .seq n xs) hu rfl⟩
    | fn g cs => exact ⟨_, h, fun w E u hu => Rep.cells (p := .fn g cs) hu rfl⟩
    | tup vs => exact h.elim
  | box n off => exact h.elim
  | own n => exact h.elim
  | rowp n off => exact h.elim
  | clo _ _ => exact h.elim
  | bnd _ _ => exact h.elim

/-- The cells of a slice literal. -/
theorem elemsK_sound {sz : Nat} (hpos : 0 < sz) : ∀ {n : Nat} {is : List Nat} {xs : List SV} {k : List (List PV) → Prop}, elemsK sz n is xs k →
    ∃ l, k l ∧ l.length = is.length ∧ (∀ x ∈ l, x.length = sz) ∧ ∀ (w : World) (E : Env) (us : List Value) (cells : Array Value), SRepL w E xs us → cells.size = (n + is.length) * sz →
      ∃ out vs, Instr.fill (fun i => some (i * sz, sz)) cells (is.zip us) = some out ∧ out.toList = cells.toList.take (n * sz) ++ vs ∧ RepL w E.ok l.flatten vs
  | n, [], [], k, h => ⟨[], h, rfl, by simp, fun w E us cells hx hc => ⟨cells, [], by simp [Instr.fill], by
      rw [List.append_nil, List.take_of_length_le]
      simp at hc ⊢
      omega, .nil⟩⟩
  | n, i :: is, x :: xs, k, h => by
    unfold elemsK at h
    cases hb : Nat.beq n i with
    | false => rw [hb] at h; exact h.elim
    | true =>
      rw [hb] at h
      obtain rfl := Nat.eq_of_beq_eq_true hb
      obtain ⟨ds, h, hds⟩ := cellsK_all h
      cases hb2 : Nat.beq ds.length sz with
      | false => simp [hb2] at h
      | true =>
        have hlen := Nat.eq_of_beq_eq_true hb2
        have h : elemsK sz (n + 1) is xs fun l => k (ds :: l) := by simpa [hb2] using h
        obtain ⟨l, hk, hll, hall, hrest⟩ := elemsK_sound hpos h
        refine ⟨_, hk, by simp [hll], fun y hy => by
          rcases List.mem_cons.1 hy with e | hy
          · rw [e]; exact hlen
          · exact hall y hy, fun w E us cells hx hc => ?_⟩
        obtain ⟨u, us', rfl, hu, hs⟩ := hx.uncons
        have hd := hds w E u hu
        have e1 : u.cells.size = ds.length := by have := hd.1; simpa using this
        have hcs : (n + 1 + is.length) * sz = cells.size := by rw [hc, List.length_cons]; congr 1; omega
        have hle : n * sz + u.cells.size ≤ cells.size := by
          rw [e1, hlen, ← hcs, Nat.add_mul, Nat.add_mul]
          omega
        have hf := congrArg List.length (foldl_set' (n * sz) u.cells cells hle)
        rw [Array.length_toList] at hf
        obtain ⟨out, vs, ho, hov, hr⟩ := hrest w E us' (u.cells.zipIdx.foldl (fun cs (c, j) => cs.setIfInBounds (n * sz + j) c) cells) hs (by
          rw [hf, hcs]
          simp only [List.length_append, List.length_take, List.length_drop, Array.length_toList]
          omega)
        refine ⟨out, u.cells.toList ++ vs, ?_, ?_, ?_⟩
        · rw [List.zip_cons_cons, fill_parts (w := w) (ok := E.ok) [] _ cells n (n * sz) u _ (by rw [e1, hlen]) hle]
          exact ho
        · rw [hov, foldl_set' (n * sz) u.cells cells hle, ← List.append_assoc]
          congr 1
          have hl2 : (cells.toList.take (n * sz) ++ u.cells.toList).length = (n + 1) * sz := by
            rw [List.length_append, List.length_take, Array.length_toList, Array.length_toList, e1, hlen, Nat.add_mul]
            omega
          rw [← hl2, List.take_left]
        · rw [List.flatten_cons]
          exact hd.append hr
  | _, [], _ :: _, k, h => h.elim
  | _, _ :: _, [], k, h => h.elim

theorem vop_buildSlice (hC : C.Good) {t n : Nat} {parts : Array (Nat × Operand)} (ho : o.op = .buildSlice t n parts) {xs : List SV} {k : SV → Prop} (h : buildSliceK C t n (parts.toList.map (·.1)) xs k) :
    ∃ v, VOk C s o xs v ∧ k v := by
  unfold buildSliceK at h
  obtain ⟨ti, hl, h⟩ := lookK_sound h
  have ht := tab_ok hC.tab hl
  split at h
  case h_2 => exact h.elim
  rename_i e hki
  have hd := ht.slice_run hki
  obtain ⟨te, hle, h⟩ := lookK_sound h
  have hte := tab_ok hC.tab hle
  cases hb : Nat.beq n (parts.toList.map (·.1)).length && Nat.ble (n * te.size) 16777216 && Nat.blt 0 te.size with
  | false => rw [hb] at h; exact h.elim
  | true =>
    rw [hb] at h
    simp only [Bool.and_eq_true] at hb
    have hn := Nat.eq_of_beq_eq_true hb.1.1
    have hbig : n * te.size ≤ 16777216 := Nat.le_of_ble_eq_true hb.1.2
    have hpos : 0 < te.size := by simpa [Nat.blt_eq] using hb.2
    obtain ⟨l, hk, hll, hall, hel⟩ := elemsK_sound hpos h
    refine ⟨_, fun B w E us a hM hB hok hG hx hus => ?_, hk⟩
    obtain ⟨z, hz, hzr⟩ := hte.zero_run
    obtain ⟨out, vs, hout, hov, hr⟩ := hel w E us ((Array.range (n * te.size)).map fun x => (if n * te.size = 0 then #[] else z.cells)[x % (if n * te.size = 0 then #[] else z.cells).size]!) hx (by simp [hn])
    have hov' : out.toList = vs := by simpa using hov
    have hrun : (Instr.buildSlice t n (parts.map fun (i, x) => (i, a.eval x))).run C.P w = .ok (.slice (some ⟨w.heap.size, 0, none⟩) n n) (w.alloc (.cells vs.toArray e)) := by
      have hpm := parts_map parts a.eval us (by rw [ho] at hus; exact hus)
      have hout' : Instr.fill (fun i => some (i * te.size, te.size)) ((Array.range (n * te.size)).map fun x => (if n * te.size = 0 then #[] else z.cells)[x % (if n * te.size = 0 then #[] else z.cells).size]!) (parts.map fun (i, x) => (i, a.eval x)).toList = some out := by
        rw [hpm]; exact hout
      have hbig' : ¬ n * te.size > 2 ^ 24 := by omega
      have hv : vs.toArray = out := by rw [← hov']
      by_cases h0 : n * te.size = 0
      · simp only [if_pos h0] at hout'
        simp only [Instr.buildSlice, Sem.run_bind, run_underlying hd, Result.andThen_ok, hte.sizeOf_run, if_neg hbig', if_pos h0, Sem.run_pure, hout', newRow, run_newObj, hv]
        rfl
      · simp only [if_neg h0] at hout'
        simp only [Instr.buildSlice, Sem.run_bind, run_underlying hd, Result.andThen_ok, hte.sizeOf_run, if_neg hbig', if_neg h0, hzr, Sem.run_pure, hout', newRow, run_newObj, hv]
        rfl
    unfold execOp
    rw [ho]
    simp only [Sem.run_bind, hrun, Result.andThen_ok, Sem.run_pure]
    have hb : Below w.heap.size w (w.alloc (.cells vs.toArray e)) := (Below.refl _ _).alloc (Nat.le_refl _) _
    refine ⟨hb, ?_⟩
    have h2 := hr.ext (w' := w.alloc (.cells vs.toArray e)) (ok' := grow E.ok w (w.alloc (.cells vs.toArray e))) (fun b h => .inl h) (fun b h => hb.block b (hok b h))
    refine .seq te.size l _ n n vs (by rw [hll, hn]) (Nat.le_refl _) ?_ hall h2.1 h2.2 (fun _ => ⟨w.heap.size, 0, rfl, .inr ⟨Nat.le_refl _, by simp⟩, fun j u hu => ?_⟩)
    · have : n ≤ n * te.size := Nat.le_mul_of_pos_right _ hpos
      simp only [maxLen]
      omega
    · rw [Nat.zero_add]
      simpa using hu

theorem chunkK_sound {sz : Nat} : ∀ {n : Nat} {cs : List PV} {k : List (List PV) → Prop}, chunkK sz n cs k → ∃ l, k l ∧ l.length = n ∧ (∀ x ∈ l, x.length = sz) ∧ n * sz ≤ cs.length ∧ l.flatten = cs.take (n * sz)
  | 0, cs, k, h => ⟨[], h, rfl, by simp, by simp, by simp⟩
  | n + 1, cs, k, h => by
    obtain ⟨h1, h⟩ := takeK_sound h
    obtain ⟨_, h⟩ := dropK_sound h
    obtain ⟨l, hk, hl, hall, hle, hf⟩ := chunkK_sound h
    simp at hle
    refine ⟨_, hk, by simp [hl], fun y hy => ?_, by rw [Nat.add_mul]; omega, ?_⟩
    · rcases List.mem_cons.1 hy with e | hy
      · rw [e, List.length_take]; omega
      · exact hall y hy
    · rw [List.flatten_cons, hf, Nat.add_mul, Nat.one_mul, Nat.add_comm (n * sz) sz, List.take_add]

theorem str_bounds {P : Program} {w : World} {t : Nat} {s : ByteArray} {q q' : IntKind} {i j : Int} (h : P.underlying t = some .string) (hi : 0 ≤ i ∧ i ≤ j ∧ j ≤ s.size) :
    (Instr.sliceAt t (.string s) (some (.int q i)) (some (.int q' j)) none).run P w = .ok (.string (s.extract i.toNat j.toNat)) w := by
  have h1 : 0 ≤ j := by omega
  have h2 : i ≤ (j.toNat : Int) := by omega
  simp [Instr.sliceAt, run_underlying h, Instr.slice, Instr.sliceBounds, Instr.sliceBound, asIntOf, h1, hi.2.2, hi.1, h2]
  intro h3
  omega
theorem str_from {P : Program} {w : World} {t : Nat} {s : ByteArray} {q : IntKind} {i : Int} (h : P.underlying t = some .string) (hi : 0 ≤ i ∧ i ≤ s.size) :
    (Instr.sliceAt t (.string s) (some (.int q i)) none none).run P w = .ok (.string (s.extract i.toNat s.size)) w := by
  simp [Instr.sliceAt, run_underlying h, Instr.slice, Instr.sliceBounds, Instr.sliceBound, asIntOf, hi.1, hi.2]
theorem str_to {P : Program} {w : World} {t : Nat} {s : ByteArray} {q : IntKind} {j : Int} (h : P.underlying t = some .string) (hi : 0 ≤ j ∧ j ≤ s.size) :
    (Instr.sliceAt t (.string s) none (some (.int q j)) none).run P w = .ok (.string (s.extract 0 j.toNat)) w := by
  simp [Instr.sliceAt, run_underlying h, Instr.slice, Instr.sliceBounds, Instr.sliceBound, asIntOf, hi.1, hi.2]
end
end Go.Proofs.Ab
end
section
/- That the model's operations do what the evaluation says: slices of slices, calls, arithmetic, conversions. The whole: vop_sound. -/
set_option linter.unusedVariables false
set_option linter.unusedSimpArgs false
namespace Go.Proofs.Ab
open Go Go.RowKit

section
variable {C : Cx} {s : AS} {o : Oper}

theorem flat_take {α : Type} {sz : Nat} : ∀ {xs : List (List α)} (j : Nat), (∀ x ∈ xs, x.length = sz) → (xs.take j).flatten = xs.flatten.take (j * sz)
  | [], j, _ => by simp
  | x :: xs, 0, _ => by simp
  | x :: xs, j + 1, h => by
    have hx := h x List.mem_cons_self
    rw [List.take_succ_cons, List.flatten_cons, List.flatten_cons, flat_take j (fun y hy => h y (List.mem_cons_of_mem _ hy))]
    rw [show (j + 1) * sz = x.length + j * sz by rw [hx, Nat.add_mul]; omega, List.take_length_add_append]
theorem flat_drop {α : Type} {sz : Nat} : ∀ {xs : List (List α)} (j : Nat), (∀ x ∈ xs, x.length = sz) → (xs.drop j).flatten = xs.flatten.drop (j * sz)
  | [], j, _ => by simp
  | x :: xs, 0, _ => by simp
  | x :: xs, j + 1, h => by
    have hx := h x List.mem_cons_self
    rw [List.drop_succ_cons, List.flatten_cons, flat_drop j (fun y hy => h y (List.mem_cons_of_mem _ hy))]
    rw [show (j + 1) * sz = x.length + j * sz by rw [hx, Nat.add_mul]; omega, List.drop_length_add_append]
theorem seq_cut {w : World} {ok : Nat → Prop} {sz : Nat} {l : List (List PV)} {A : Option Addr} {cap : Nat} (h : Rep w ok (.seq sz l) (.slice A l.length cap)) (i j : Nat) (hij : i ≤ j) (hj : j ≤ l.length) :
    Rep w ok (.seq sz ((l.take j).drop i)) (.slice (if cap = i then A else A.map (·.add (i * sz))) (j - i) (cap - i)) := by
  obtain ⟨A', cap', us, he, hcap, hm, hsz, hr, hA⟩ := seq_inv h
  injection he with h1 _ h2
  subst h1; subst h2
  have hsz0 : ∀ x ∈ l.take j, x.length = sz := fun x hx => hsz x (List.mem_of_mem_take hx)
  have hsz' : ∀ x ∈ (l.take j).drop i, x.length = sz := fun x hx => hsz0 x (List.mem_of_mem_drop hx)
  have hflat : ((l.take j).drop i).flatten = (l.flatten.take (j * sz)).drop (i * sz) := by
    rw [flat_drop i hsz0, flat_take j hsz]
  have hr' := (hr.take (j * sz)).drop (i * sz)
  refine .seq sz _ _ _ _ ((us.take (j * sz)).drop (i * sz)) (by simp; omega) (by omega) (by omega) hsz' (by rw [hr'.1, ← hflat]) (fun n c u hc hu => hr'.2 n c u (by rw [← hflat]; exact hc) hu) (fun hp => ?_)
  obtain ⟨b, o, rfl, hok, hc⟩ := hA (by omega)
  rw [if_neg (by omega)]
  refine ⟨b, o + i * sz, by simp [addr_add], hok, fun n u hu => ?_⟩
  rw [List.getElem?_drop, List.getElem?_take] at hu
  split at hu
  · rw [Nat.add_assoc]; exact hc _ u hu
  · cases hu

theorem sl_from {P : Program} {w : World} {t e : Nat} {te : TI} {q : IntKind} {i : Int} {A : Option Addr} {len cap : Nat} (h : P.underlying t = some (.slice e)) (he : TI.Ok P e te) (hi : 0 ≤ i ∧ i ≤ len) (hc : len ≤ cap) :
    (Instr.sliceAt t (.slice A len cap) (some (.int q i)) none none).run P w = .ok (.slice (if cap = i.toNat then A else A.map (·.add (i.toNat * te.size))) (len - i.toNat) (cap - i.toNat)) w := by
  simp [Instr.sliceAt, run_underlying h, Instr.slice, Instr.sliceBounds, Instr.sliceBound, asIntOf, hi.1, hi.2, he.sizeOf_run]
theorem sl_to {P : Program} {w : World} {t e : Nat} {te : TI} {q : IntKind} {j : Int} {A : Option Addr} {len cap : Nat} (h : P.underlying t = some (.slice e)) (he : TI.Ok P e te) (hj : 0 ≤ j ∧ j ≤ len) (hc : len ≤ cap) :
    (Instr.sliceAt t (.slice A len cap) none (some (.int q j)) none).run P w = .ok (.slice (if cap = 0 then A else A.map (·.add (0 * te.size))) (j.toNat - 0) (cap - 0)) w := by
  have h2 : j ≤ (cap : Int) := by omega
  simp [Instr.sliceAt, run_underlying h, Instr.slice, Instr.sliceBounds, Instr.sliceBound, asIntOf, hj.1, h2, he.sizeOf_run]

/-- A slice expression's operation, all that it asks told. -/
def SlOk (C : Cx) (t : Nat) (x : SV) (lo hi : Option SV) (v : SV) : Prop :=
  ∀ (w : World) (E : Env) (u : Value) (ul uh : Option Value), (∀ b, E.ok b → b < w.heap.size) → SRep w E x u → (∀ y, lo = some y → ∃ z, ul = some z ∧ SRep w E y z) → (lo = none → ul = none) →
    (∀ y, hi = some y → ∃ z, uh = some z ∧ SRep w E y z) → (hi = none → uh = none) → ∃ r, (Instr.sliceAt t u ul uh none).run C.P w = .ok r w ∧ SRep w E v r

theorem sliceK_sound (hC : C.Good) {t : Nat} {x : SV} {lo hi : Option SV} {k : SV → Prop} (h : sliceK C t x lo hi k) : ∃ v, k v ∧ SlOk C t x lo hi v := by
  unfold sliceK at h
  obtain ⟨ti, hl, h⟩ := lookK_sound h
  have ht := tab_ok hC.tab hl
  split at h
  · rename_i n e hki
    have hd := ht.array_run hki
    split at h
    case h_2 => exact h.elim
    rename_i cs _
    obtain ⟨te, hle, h⟩ := lookK_sound h
    have hte := tab_ok hC.tab hle
    cases hb : Nat.blt 0 te.size && Nat.ble n 16777216 with
    | false => rw [hb] at h; exact h.elim
    | true =>
      rw [hb] at h
      rw [Bool.and_eq_true] at hb
      have hpos : 0 < te.size := by simpa [Nat.blt_eq] using hb.1
      have hsmall : n ≤ 16777216 := Nat.le_of_ble_eq_true hb.2
      obtain ⟨l, hk, hll, hall, hle, hf⟩ := chunkK_sound h
      refine ⟨_, hk, fun w E u ul uh hok hu _ h1 _ h2 => ?_⟩
      obtain ⟨b, off, us, rfl, hob, hr, hc⟩ := ref_inv hu
      rw [h1 rfl, h2 rfl]
      have hrun : (Instr.sliceAt t (.pointer (some ⟨b, off, none⟩)) none none none).run C.P w = .ok (.slice (some ⟨b, off, none⟩) n n) w := by
        simp [Instr.sliceAt, run_underlying hd, Instr.sureAddr, Instr.sliceBounds, hte.sizeOf_run, Addr.add]
      refine ⟨_, hrun, ?_⟩
      have hr' := hr.take (n * te.size)
      rw [← hf] at hr'
      refine .seq te.size l _ n n (us.take (n * te.size)) hll.symm (Nat.le_refl _) (by simp only [maxLen]; omega) hall hr'.1 hr'.2 (fun _ => ⟨b, off, rfl, hob, fun j u hu => ?_⟩)
      rw [List.getElem?_take] at hu
      split at hu
      · exact hc j u hu
      · cases hu
  · rename_i hki
    have hd := ht.string_run hki
    split at h
    · obtain ⟨hi, hk⟩ := h
      refine ⟨_, hk, fun w E u ul uh hok hu h1 _ _ h2 => ?_⟩
      obtain rfl := v_inv hu
      obtain ⟨z, rfl, hz⟩ := h1 _ rfl
      obtain rfl := v_inv hz
      rw [h2 rfl]
      exact ⟨_, str_from hd hi, .v _⟩
    · obtain ⟨hi, hk⟩ := h
      refine ⟨_, hk, fun w E u ul uh hok hu _ h1 h2 _ => ?_⟩
      obtain rfl := v_inv hu
      obtain ⟨z, rfl, hz⟩ := h2 _ rfl
      obtain rfl := v_inv hz
      rw [h1 rfl]
      exact ⟨_, str_to hd hi, .v _⟩
    · obtain ⟨hi, hk⟩ := h
      refine ⟨_, hk, fun w E u ul uh hok hu h1 _ h2 _ => ?_⟩
      obtain rfl := v_inv hu
      obtain ⟨z, rfl, hz⟩ := h2 _ rfl
      obtain rfl := v_inv hz
      obtain ⟨z, rfl, hz⟩ := h1 _ rfl
      obtain rfl := v_inv hz
      exact ⟨_, str_bounds hd hi, .v _⟩
    · exact h.elim
  · rename_i e hki
    have hd := ht.slice_run hki
    obtain ⟨te, hle, h⟩ := lookK_sound h
    have hte := tab_ok hC.tab hle
    split at h
    · rename_i sz l q i _ _
      cases hb : Nat.beq sz te.size with
      | false => rw [hb] at h; exact h.elim
      | true =>
        rw [hb] at h
        obtain ⟨hi, hk⟩ := h
        obtain rfl := Nat.eq_of_beq_eq_true hb
        refine ⟨_, hk, fun w E u ul uh hok hu h1 _ _ h2 => ?_⟩
        obtain ⟨z, rfl, hz⟩ := h1 _ rfl
        obtain rfl := v_inv hz
        rw [h2 rfl]
        obtain ⟨A, cap, us, rfl, hcap, _⟩ := seq_inv hu
        refine ⟨_, sl_from hd hte hi hcap, ?_⟩
        have := seq_cut hu i.toNat l.length (by omega) (Nat.le_refl _)
        rwa [List.take_length] at this
    · rename_i sz l q j _ _
      cases hb : Nat.beq sz te.size with
      | false => rw [hb] at h; exact h.elim
      | true =>
        rw [hb] at h
        obtain ⟨hj, hk⟩ := h
        obtain rfl := Nat.eq_of_beq_eq_true hb
        refine ⟨_, hk, fun w E u ul uh hok hu _ h1 h2 _ => ?_⟩
        obtain ⟨z, rfl, hz⟩ := h2 _ rfl
        obtain rfl := v_inv hz
        rw [h1 rfl]
        obtain ⟨A, cap, us, rfl, hcap, _⟩ := seq_inv hu
        refine ⟨_, sl_to hd hte hj hcap, ?_⟩
        exact seq_cut hu 0 j.toNat (Nat.zero_le _) (by omega)
    · exact h.elim
  · exact h.elim
end
end Go.Proofs.Ab
end
section
/- That the model's operations do what the evaluation says: calls, arithmetic, conversions. The whole: vop_sound. -/
set_option linter.unusedVariables false
set_option linter.unusedSimpArgs false
namespace Go.Proofs.Ab
open Go Go.RowKit

section
variable {C : Cx} {s : AS} {o : Oper}

theorem run_enter {f : FuncId} (hb : HasBody C f) (args : Array Value) (w : World) : (callFunc f args).run C.P w = .ok (.enter f args) w := by
  obtain ⟨fn, c, hf, hn, hbody⟩ := hb
  have hn' : fn.name ≠ "runtime.NumGoroutine" := by simpa using hn
  simp [callFunc, hf, hn', hbody]

theorem toArray_append (a b : List Value) : a.toArray ++ b.toArray = (a ++ b).toArray := by simp

theorem own_seq {w : World} {ok : Nat → Prop} {B e sz : Nat} {v : Value} {xs : List (List PV)} {us : List Value} (ho : w.ownsRow B e sz v xs.length us) (hsz : ∀ x ∈ xs, x.length = sz) (hr : RepL w ok xs.flatten us) (hok : ∀ g, v.ownBlock = some g → ok g) :
    Rep w ok (.seq sz xs) v := by
  rcases ho.2 with ⟨rfl, h0⟩ | ⟨g, cap, cur, rfl, hb, hh, hnc, hm, _⟩
  · have : xs = [] := List.eq_nil_of_length_eq_zero h0
    subst this
    exact .seq sz [] none 0 0 [] rfl (Nat.le_refl _) (Nat.zero_le _) (by simp) rfl (by simp) (by omega)
  · exact .seq sz xs _ _ cap us rfl hnc hm hsz hr.1 hr.2 (fun _ => ⟨g, 0, rfl, hok g rfl, fun j u hu => by
      rw [Nat.zero_add]
      exact ownsRow_cells ho rfl j u hu⟩)
theorem lendK_sound {s : AS} : ∀ {xs : List SV} {k : Bool → List PV → Prop}, lendK s xs k → ∃ b l, k b l ∧ xs.length = l.length ∧ (b = false → xs = l.map SV.p) ∧
    ∀ (j : Nat) (c : PV), l[j]? = some c → xs[j]? = some (.p c) ∨ ∃ n e sz ys, xs[j]? = some (.own n) ∧ look s.rw n = some (e, sz, ys) ∧ c = .seq sz ys
  | [], k, h => ⟨false, [], h, rfl, fun _ => rfl, fun j c hc => by simp at hc⟩
  | x :: xs, k, h => by
    cases x with
    | p y =>
      obtain ⟨b, l, h1, h2, h3, h4⟩ := lendK_sound (xs := xs) (k := fun b l => k b (y :: l)) h
      refine ⟨b, _, h1, by simp [h2], fun hb => by simp [← h3 hb], fun j c hc => ?_⟩
      cases j with
      | zero => simp at hc; exact .inl (by simp [hc])
      | succ j => simpa using h4 j c (by simpa using hc)
    | own n =>
      obtain ⟨⟨e, sz, ys⟩, hq, h⟩ := lookK_sound h
      obtain ⟨b, l, h1, h2, h3, h4⟩ := lendK_sound (xs := xs) (k := fun _ l => k true (.seq sz ys :: l)) h
      refine ⟨true, _, h1, by simp [h2], fun hb => (Bool.noConfusion hb), fun j c hc => ?_⟩
      cases j with
      | zero => simp at hc; exact .inr ⟨n, e, sz, ys, by simp, hq, hc.symm⟩
      | succ j => simpa using h4 j c (by simpa using hc)
    | box n off => exact h.elim
    | rowp n off => exact h.elim
    | clo _ _ => exact h.elim
    | bnd _ _ => exact h.elim
/-- What is lent may be read. -/
theorem lend_rep {B : Nat} {w : World} {E : Env} (hM : Mem s B w E) {xs : List SV} {l : List PV} {us : List Value} (hl : xs.length = l.length)
    (hx : ∀ (j : Nat) (c : PV), l[j]? = some c → xs[j]? = some (.p c) ∨ ∃ n e sz ys, xs[j]? = some (.own n) ∧ look s.rw n = some (e, sz, ys) ∧ c = .seq sz ys) (hr : SRepL w E xs us) :
    RepL w (fun b => E.ok b ∨ ∃ n x v, look s.rw n = some x ∧ E.ν n = some v ∧ v.ownBlock = some b) l us :=
  ⟨by rw [hr.1, hl], fun j c u hc hu => by
    rcases hx j c hc with h | ⟨n, e, sz, ys, h, hn, rfl⟩
    · exact Rep.ext (hr.2 j _ u h hu) (fun _ h => .inl h) (fun _ _ => rfl)
    · obtain ⟨v, us0, hv, ho, hsz, hrep, hok⟩ := hM.rw n e sz ys hn
      have h2 : E.ν n = some u := hr.2 j _ u h hu
      rw [hv] at h2
      injection h2 with h2
      subst h2
      exact own_seq ho hsz (hrep.ext (w' := w) (fun _ h => .inl h) (fun _ _ => rfl)) (fun g hg => .inr ⟨n, _, _, hn, hv, hg⟩)⟩

theorem vop_call {c : Call} {A : Operand} (hc : c.callee = .value A) (ho : o.op = .call c) {f : SV} {args : List SV} {k : SV → Prop} (h : callK C s f args k) : ∃ v, VOk C s o (f :: args) v ∧ k v := by
  cases f with
  | p x =>
    cases x with
    | fn g caps =>
      obtain ⟨b, l, h2, hlen, hpl, hlx⟩ := lendK_sound h
      have h3 := appK_sound h2
      cases b with
      | true =>
      obtain ⟨x, hp, hk⟩ := h3
      refine ⟨.p (.v x), fun B w E us a hM hB hok hG hx hus => ?_, hk⟩
      obtain ⟨u, us', rfl, hu, hs⟩ := hx.uncons
      obtain ⟨cv, rfl, hcv⟩ := fn_inv hu
      have hargs := lend_rep hM hlen hlx hs
      have hop : o.op.operands.toList = A :: c.args.toList := by rw [ho]; simp [Op.operands, Call.operands, hc]
      rw [hop] at hus
      simp only [List.map_cons, List.cons.injEq] at hus
      have hargs' : c.args.map a.eval = us'.toArray := by
        rw [← hus.2]
        simp [← Array.toList_map]
      unfold execOp
      rw [ho]
      simp only [resolve, hc, hus.1, Deferred.ofValue, invoke, Sem.run_bind, Sem.run_pure, Result.andThen_ok, hargs', Array.empty_append, toArray_append, run_enter hp.1]
      refine ⟨rfl, ?_⟩
      refine (hp.2 w _ (us' ++ cv) (fun b hb => ?_) (hG.ext (fun _ h => .inl h) (fun _ _ => rfl)) (hargs.append (hcv.ext (fun _ h => .inl h) (fun _ _ => rfl)))).mono fun e w' ⟨u, he, hb, hr⟩ => ⟨u, he, hb, ?_⟩
      · rcases hb with hb | ⟨n, ⟨e, sz, ys⟩, v, hn, hv, hg⟩
        · exact hok b hb
        · obtain ⟨v', us0, hv', ho', _⟩ := hM.rw n e sz ys hn
          rw [hv] at hv'
          injection hv' with hv'
          subst hv'
          exact (ho'.lt b hg).2
      · have := v_inv hr
        subst this
        exact .v _
      | false =>
      obtain ⟨v, hp, hk⟩ := h3
      have hargs0 := hpl rfl
      subst hargs0
      refine ⟨.p v, fun B w E us a hM hB hok hG hx hus => ?_, hk⟩
      obtain ⟨u, us', rfl, hu, hs⟩ := hx.uncons
      obtain ⟨cv, rfl, hcv⟩ := fn_inv hu
      have hargs := hs.pures
      have hop : o.op.operands.toList = A :: c.args.toList := by rw [ho]; simp [Op.operands, Call.operands, hc]
      rw [hop] at hus
      simp only [List.map_cons, List.cons.injEq] at hus
      have hargs' : c.args.map a.eval = us'.toArray := by
        rw [← hus.2]
        simp [← Array.toList_map]
      unfold execOp
      rw [ho]
      simp only [resolve, hc, hus.1, Deferred.ofValue, invoke, Sem.run_bind, Sem.run_pure, Result.andThen_ok, hargs', Array.empty_append, toArray_append, run_enter hp.1]
      refine ⟨rfl, ?_⟩
      exact (hp.2 w E.ok (us' ++ cv) hok hG (hargs.append hcv)).mono fun e w' ⟨u, he, hb, hr⟩ => ⟨u, he, hb, hr⟩
    | v y => exact h.elim
    | ref a => exact h.elim
    | seq a l => exact h.elim
    | agg l => exact h.elim
    | tup l => exact h.elim
  | box n off => exact h.elim
  | own n => exact h.elim
  | rowp n off => exact h.elim
  | clo _ _ => exact h.elim
  | bnd _ _ => exact h.elim

/-- A builtin's call. -/
theorem vop_builtin {c : Call} {b : Builtin} (hc : c.callee = .builtin b) (ho : o.op = .call c) {xs : List SV} {v : SV}
    (h : ∀ (B : Nat) (w : World) (E : Env) (us : List Value) (cs : Array Bool), Mem s B w E → SRepL w E xs us → ∃ u, (builtin b c.argTypes o.type cs us.toArray).run C.P w = .ok (.value u) w ∧ SRep w E v u) : VOk C s o xs v := by
  intro B w E us a hM hB hok hG hx hus
  have hop : o.op.operands.toList = c.args.toList := by rw [ho]; simp [Op.operands, Call.operands, hc]
  rw [hop] at hus
  have hargs' : c.args.map a.eval = us.toArray := by
    rw [← hus]
    simp [← Array.toList_map]
  unfold execOp
  rw [ho]
  simp only [resolve, hc, invoke, Sem.run_bind, Sem.run_pure, Result.andThen_ok, hargs']
  obtain ⟨u, hr, hv⟩ := h B w E us _ hM hx
  rw [hr]
  exact VPost.same hv

theorem maxv (n m : Int) : max n m = if m > n then m else n := by
  rw [Int.max_def]
  split <;> split <;> omega
theorem minv (n m : Int) : min n m = if m < n then m else n := by
  rw [Int.min_def]
  split <;> split <;> omega

theorem lenK_sound (hC : C.Good) {t : Nat} {x : SV} {k : SV → Prop} (h : lenK C s t x k) :
    ∃ n : Nat, k (.p (I n)) ∧ ∀ (B : Nat) (w : World) (E : Env) (u : Value) (ts : List Nat) (ty : Nat) (cs : Array Bool), Mem s B w E → SRep w E x u → (builtin .len (t :: ts).toArray ty cs #[u]).run C.P w = .ok (.value (goInt n)) w := by
  unfold lenK at h
  obtain ⟨ti, hl, h⟩ := lookK_sound h
  have ht := tab_ok hC.tab hl
  split at h
  · rename_i e hki
    have hd := ht.slice_run hki
    have hlen : ∀ (w : World) (ts : List Nat) (ty : Nat) (cs : Array Bool) (A : Option Addr) (n cap : Nat), (builtin .len (t :: ts).toArray ty cs #[.slice A n cap]).run C.P w = .ok (.value (goInt n)) w := fun w ts ty cs A n cap => by
      simp [builtin, Builtin.len_, run_underlying hd]
    cases x with
    | p x =>
      cases x with
      | seq sz l =>
        refine ⟨l.length, h, fun B w E u ts ty cs hM hu => ?_⟩
        obtain ⟨A, cap, us2, rfl, _⟩ := seq_inv hu
        exact hlen ..
      | v y =>
        cases y with
        | slice a n c =>
          cases a with
          | some a => exact h.elim
          | none =>
            match n, c, h with
            | 0, 0, h =>
              refine ⟨0, h, fun B w E u ts ty cs hM hu => ?_⟩
              obtain rfl := v_inv hu
              exact hlen ..
        | _ => exact h.elim
      | ref a => exact h.elim
      | fn a l => exact h.elim
      | agg l => exact h.elim
      | tup l => exact h.elim
    | own n =>
      obtain ⟨⟨e', sz, xs⟩, hlr, h⟩ := lookK_sound h
      refine ⟨xs.length, h, fun B w E u ts ty cs hM hu => ?_⟩
      obtain ⟨v, us, hv, ho', _⟩ := hM.rw n e' sz xs hlr
      have hu' : E.ν n = some u := hu
      rw [hv] at hu'
      injection hu' with hu'
      subst hu'
      rcases ho'.2 with ⟨rfl, h0⟩ | ⟨g, cap, cur, rfl, _⟩
      · rw [h0]; exact hlen ..
      · exact hlen ..
    | box n off => exact h.elim
    | rowp n off => exact h.elim
    | clo _ _ => exact h.elim
    | bnd _ _ => exact h.elim
  · rename_i hki
    have hd := ht.string_run hki
    cases x with
    | p x =>
      cases x with
      | v y =>
        cases y with
        | string b =>
          refine ⟨b.size, h, fun B w E u ts ty cs hM hu => ?_⟩
          obtain rfl := v_inv hu
          simp [builtin, Builtin.len_, run_underlying hd]
        | _ => exact h.elim
      | _ => exact h.elim
    | _ => exact h.elim
  · rename_i n e hki
    have hd := ht.array_run hki
    refine ⟨n, h, fun B w E u ts ty cs hM hu => ?_⟩
    simp [builtin, Builtin.len_, run_underlying hd]
  · exact h.elim

theorem builtinK_sound (hC : C.Good) {c : Call} {b : Builtin} (hc : c.callee = .builtin b) (ho : o.op = .call c) {xs : List SV} {k : SV → Prop} (h : builtinK C s b c.argTypes.toList xs k) : ∃ v, VOk C s o xs v ∧ k v := by
  cases b with
  | len =>
    cases hts : c.argTypes.toList with
    | nil => rw [hts] at h; exact h.elim
    | cons t ts =>
      rw [hts] at h
      match xs, h with
      | [x], h =>
        obtain ⟨n, hk, hr⟩ := lenK_sound hC h
        refine ⟨_, vop_builtin hc ho fun B w E us cs hM hx => ?_, hk⟩
        obtain ⟨u, us', rfl, hu, hs⟩ := hx.uncons
        rw [hs.unnil]
        have e : c.argTypes = (t :: ts).toArray := by rw [← hts]
        rw [e]
        exact ⟨_, hr B w E u ts o.type cs hM hu, .v _⟩
  | max =>
    match xs, h with
    | [.p (.v (.int q n)), .p (.v (.int q' m))], h =>
      refine ⟨_, vop_builtin hc ho fun B w E us cs hM hx => ?_, h⟩
      obtain ⟨u, us', rfl, hu, hs⟩ := hx.uncons
      obtain ⟨u', us'', rfl, hu', hs'⟩ := hs.uncons
      rw [hs'.unnil]
      obtain rfl := v_inv hu
      obtain rfl := v_inv hu'
      refine ⟨_, ?_, .v _⟩
      simp only [builtin, Sem.run_bind, run_max_int2, Result.andThen_ok, Sem.run_pure, maxv]
    | [.p (.v (.float q a)), .p (.v (.float q' b))], h =>
      obtain ⟨r, hr, h⟩ := h
      refine ⟨_, vop_builtin hc ho fun B w E us cs hM hx => ?_, h⟩
      obtain ⟨u, us', rfl, hu, hs⟩ := hx.uncons
      obtain ⟨u', us'', rfl, hu', hs'⟩ := hs.uncons
      rw [hs'.unnil]
      obtain rfl := v_inv hu
      obtain rfl := v_inv hu'
      refine ⟨_, ?_, .v _⟩
      simp [builtin, Builtin.max_, hr]
  | min =>
    match xs, h with
    | [.p (.v (.int q n)), .p (.v (.int q' m))], h =>
      refine ⟨_, vop_builtin hc ho fun B w E us cs hM hx => ?_, h⟩
      obtain ⟨u, us', rfl, hu, hs⟩ := hx.uncons
      obtain ⟨u', us'', rfl, hu', hs'⟩ := hs.uncons
      rw [hs'.unnil]
      obtain rfl := v_inv hu
      obtain rfl := v_inv hu'
      refine ⟨_, ?_, .v _⟩
      simp only [builtin, Sem.run_bind, run_min_int2, Result.andThen_ok, Sem.run_pure, minv]
  | real =>
    match xs, h with
    | [.p (.v (.complex q a b))], h =>
      refine ⟨_, vop_builtin hc ho fun B w E us cs hM hx => ?_, h⟩
      obtain ⟨u, us', rfl, hu, hs⟩ := hx.uncons
      rw [hs.unnil]
      obtain rfl := v_inv hu
      exact ⟨_, rfl, .v _⟩
  | imag =>
    match xs, h with
    | [.p (.v (.complex q a b))], h =>
      refine ⟨_, vop_builtin hc ho fun B w E us cs hM hx => ?_, h⟩
      obtain ⟨u, us', rfl, hu, hs⟩ := hx.uncons
      rw [hs.unnil]
      obtain rfl := v_inv hu
      exact ⟨_, rfl, .v _⟩
  | complex =>
    match xs, h with
    | [.p (.v (.float q a)), .p (.v (.float q' b))], h =>
      unfold builtinK at h
      cases hq : decide (q = q') with
      | false => simp [hq] at h
      | true =>
        have hqq := of_decide_eq_true hq
        subst hqq
        have h : k (.p (.v (.complex q a b))) := by simpa using h
        refine ⟨_, vop_builtin hc ho fun B w E us cs hM hx => ?_, h⟩
        obtain ⟨u, us', rfl, hu, hs⟩ := hx.uncons
        obtain ⟨u', us'', rfl, hu', hs'⟩ := hs.uncons
        rw [hs'.unnil]
        obtain rfl := v_inv hu
        obtain rfl := v_inv hu'
        refine ⟨_, ?_, .v _⟩
        cases q <;> rfl
  | _ => exact h.elim

/-! ### Arithmetic -/
theorem intOpK_sound {op : BinOp} {q : IntKind} {n m : Int} {k : PV → Prop} (h : intOpK op q n m k) : ∃ r : Value, k (.v r) ∧ ∀ (t : Nat) (x y : Operand) (w : World), (do eqGuard op t x y (.int q n) (.int q m); binOp op t (.int q n) (.int q m) : Sem Value).run C.P w = .ok r w := by
  cases op with
  | add => exact ⟨_, h, fun t x y w => by simp [eqGuard_add, binOp_add, Op.intArith, wrapK_eq]⟩
  | sub => exact ⟨_, h, fun t x y w => by simp [eqGuard_sub, binOp_sub, Op.intArith, wrapK_eq]⟩
  | mul => exact ⟨_, h, fun t x y w => by simp [eqGuard_mul, binOp_mul, Op.intArith, wrapK_eq]⟩
  | quo => obtain ⟨h0, h⟩ := h; exact ⟨_, h, fun t x y w => by simp [eqGuard_quo, binOp_quo, Op.intDiv, h0, wrapK_eq]⟩
  | rem => obtain ⟨h0, h⟩ := h; exact ⟨_, h, fun t x y w => by simp [eqGuard_rem, binOp_rem, Op.intDiv, h0]⟩
  | and => exact ⟨_, h, fun t x y w => by simp [eqGuard_and, binOp_and, intBits_and]⟩
  | or => exact ⟨_, h, fun t x y w => by simp [eqGuard_or, binOp_or, intBits_or]⟩
  | xor => exact ⟨_, h, fun t x y w => by simp [eqGuard_xor, binOp_xor, intBits_xor]⟩
  | andNot => exact ⟨_, h, fun t x y w => by simp [eqGuard_andNot, binOp_andNot, intBits_andNot]⟩
  | shl => exact h.elim
  | shr => exact h.elim
  | eql =>
    by_cases e : n = m
    · exact ⟨_, h.t e, fun t x y w => by simp [eqGuard_at_int, binOp_eql, e]⟩
    · exact ⟨_, h.f e, fun t x y w => by simp [eqGuard_at_int, binOp_eql, e]⟩
  | neq =>
    by_cases e : n = m
    · exact ⟨_, h.t e, fun t x y w => by simp [eqGuard_at_int, binOp_neq, e]⟩
    · exact ⟨_, h.f e, fun t x y w => by simp [eqGuard_at_int, binOp_neq, e]⟩
  | lss =>
    by_cases e : n < m
    · exact ⟨_, h.t e, fun t x y w => by simp [eqGuard_lss, binOp_lss, e]⟩
    · exact ⟨_, h.f e, fun t x y w => by simp [eqGuard_lss, binOp_lss, e]⟩
  | leq =>
    by_cases e : n ≤ m
    · exact ⟨_, h.t e, fun t x y w => by simp [eqGuard_leq, binOp_leq, e]⟩
    · exact ⟨_, h.f e, fun t x y w => by simp [eqGuard_leq, binOp_leq, e]⟩
  | gtr =>
    by_cases e : m < n
    · exact ⟨_, h.t e, fun t x y w => by simp [eqGuard_gtr, binOp_gtr, e]⟩
    · exact ⟨_, h.f e, fun t x y w => by simp [eqGuard_gtr, binOp_gtr, e]⟩
  | geq =>
    by_cases e : m ≤ n
    · exact ⟨_, h.t e, fun t x y w => by simp [eqGuard_geq, binOp_geq, e]⟩
    · exact ⟨_, h.f e, fun t x y w => by simp [eqGuard_geq, binOp_geq, e]⟩

theorem runK_sound {e : Sem Value} {test : Bool} {k : PV → Prop} (h : runK C.P e test k) : ∃ r : Value, k (.v r) ∧ ∀ w, e.run C.P w = .ok r w := by
  unfold runK at h
  split at h
  · obtain ⟨b, hb, h⟩ := h
    cases b with
    | true => exact ⟨_, h.t rfl, hb⟩
    | false => exact ⟨_, h.f (by simp), hb⟩
  · obtain ⟨r, hr, h⟩ := h
    exact ⟨r, h, hr⟩

theorem plain_guard {op : BinOp} {t : Nat} {x y : Operand} {u u' : Value} (h : plainV u = true) (h' : plainV u' = true) : eqGuard op t x y u u' = pure () := by
  cases op <;> cases u <;> cases u' <;> first | rfl | (simp [plainV] at h; done) | (simp [plainV] at h'; done)

theorem vop_bin {op : BinOp} {t ty : Nat} {A A' : Operand} (ho : o.op = .binOp op t A A' ty) {x y : SV} {k : SV → Prop} (h : binK C op t x y fun r => k (.p r)) : ∃ v, VOk C s o [x, y] v ∧ k v := by
  have main : ∀ r : Value, k (.p (.v r)) → (∀ (w : World) (E : Env) (u u' : Value), SRep w E x u → SRep w E y u' → (do eqGuard op t A A' u u'; binOp op t u u' : Sem Value).run C.P w = .ok r w) → ∃ v, VOk C s o [x, y] v ∧ k v := by
    intro r hk hr
    refine ⟨_, vok2 ⟨A, A', by rw [ho]; rfl, fun w E u u' ρ B hM hB hok he he' hu hu' => ?_⟩, hk⟩
    unfold execOp
    rw [ho]
    refine VPost.run (u := r) ?_ (.v r)
    rw [he, he']
    exact hr w E u u' hu hu'
  unfold binK at h
  split at h
  · rename_i q n q' m
    split at h
    · obtain ⟨hm, h⟩ := h
      refine main _ h (fun w E u u' hu hu' => ?_)
      obtain rfl := v_inv hu
      obtain rfl := v_inv hu'
      simp only [eqGuard_shl, binOp_shl, shift_shl q q' n m hm.1 hm.2, Sem.run_bind, Sem.run_pure, Result.andThen_ok, wrapK_eq]
    · obtain ⟨hm, h⟩ := h
      refine main _ h (fun w E u u' hu hu' => ?_)
      obtain rfl := v_inv hu
      obtain rfl := v_inv hu'
      simp only [eqGuard_shr, binOp_shr, shift_shr q q' n m hm.1 hm.2, Sem.run_bind, Sem.run_pure, Result.andThen_ok]
    · cases hq : decide (q = q') with
      | false => rw [hq] at h; exact h.elim
      | true =>
        rw [hq] at h
        have hqq := of_decide_eq_true hq
        subst hqq
        simp only [cond_true] at h
        obtain ⟨r, hk, hr⟩ := intOpK_sound (C := C) h
        refine main r hk (fun w E u u' hu hu' => ?_)
        obtain rfl := v_inv hu
        obtain rfl := v_inv hu'
        exact hr t A A' w
  · rename_i u0 u1 _
    cases hp : plainV u0 && plainV u1 with
    | false => rw [hp] at h; exact h.elim
    | true =>
      rw [hp] at h
      rw [Bool.and_eq_true] at hp
      simp only [cond_true] at h
      obtain ⟨r, hk, hr⟩ := runK_sound h
      refine main r hk (fun w E u u' hu hu' => ?_)
      obtain rfl := v_inv hu
      obtain rfl := v_inv hu'
      simp only [plain_guard hp.1 hp.2, Sem.run_bind, Sem.run_pure, Result.andThen_ok, hr]
  · rename_i xs ys
    have fin : ∀ (b : Bool), EqAgg C t xs ys b → (op = .eql ∧ k (.p (Bo b)) ∨ op = .neq ∧ k (.p (Bo (!b)))) → ∃ v, VOk C s o [.p (.agg xs), .p (.agg ys)] v ∧ k v := by
      intro b hb hop
      rcases hop with ⟨rfl, hk⟩ | ⟨rfl, hk⟩
      · refine main _ hk (fun w E u u' hu hu' => ?_)
        obtain ⟨us, rfl, hr⟩ := agg_inv hu
        obtain ⟨vs, rfl, hr'⟩ := agg_inv hu'
        obtain ⟨h1, h2, h3⟩ := hb A A' w E.ok us vs hr hr'
        simp [h1, binOp, h3]
      · refine main _ hk (fun w E u u' hu hu' => ?_)
        obtain ⟨us, rfl, hr⟩ := agg_inv hu
        obtain ⟨vs, rfl, hr'⟩ := agg_inv hu'
        obtain ⟨h1, h2, h3⟩ := hb A A' w E.ok us vs hr hr'
        simp [h2, binOp, h3]
    split at h
    · obtain ⟨b, hb, h⟩ := h
      cases b with
      | true => exact fin true hb (.inl ⟨rfl, h.t rfl⟩)
      | false => exact fin false hb (.inl ⟨rfl, h.f (by simp)⟩)
    · obtain ⟨b, hb, h⟩ := h
      cases b with
      | true => exact fin true hb (.inr ⟨rfl, h.t rfl⟩)
      | false => exact fin false hb (.inr ⟨rfl, h.f (by simp)⟩)
    · exact h.elim
  · exact h.elim

theorem vop_un {op : UnOp} {t : Nat} {A : Operand} (ho : o.op = .unOp op t A) {x : SV} {k : SV → Prop} (h : unK C.P op x fun r => k (.p r)) : ∃ v, VOk C s o [x] v ∧ k v := by
  have main : ∀ r : Value, k (.p (.v r)) → (∀ (w : World) (E : Env) (u : Value), SRep w E x u → (Op.unary op u).run C.P w = .ok r w) → ∃ v, VOk C s o [x] v ∧ k v := by
    intro r hk hr
    refine ⟨_, vok1 ⟨A, by rw [ho]; rfl, fun w E u ρ B hM hB hok he hu => ?_⟩, hk⟩
    unfold execOp
    rw [ho]
    refine VPost.run (u := r) ?_ (.v r)
    rw [he]
    exact hr w E u hu
  unfold unK at h
  split at h
  · refine main _ h (fun w E u hu => ?_)
    obtain rfl := v_inv hu
    simp [Op.unary, Op.intArith, wrapK_eq]
  · refine main _ h (fun w E u hu => ?_)
    obtain rfl := v_inv hu
    rfl
  · refine main _ h (fun w E u hu => ?_)
    obtain rfl := v_inv hu
    rfl
  · obtain ⟨r, hk, hr⟩ := runK_sound h
    refine main r hk (fun w E u hu => ?_)
    obtain rfl := v_inv hu
    exact hr w
  · exact h.elim

theorem vop_conv (hC : C.Good) {a b : Nat} {A : Operand} (ho : o.op = .convert a b A) {x : SV} {k : SV → Prop} (h : convK C a b x fun r => k (.p r)) : ∃ v, VOk C s o [x] v ∧ k v := by
  have main : ∀ r : Value, k (.p (.v r)) → (∀ (w : World) (E : Env) (u : Value), SRep w E x u → (convert a b u).run C.P w = .ok r w) → ∃ v, VOk C s o [x] v ∧ k v := by
    intro r hk hr
    refine ⟨_, vok1 ⟨A, by rw [ho]; rfl, fun w E u ρ B hM hB hok he hu => ?_⟩, hk⟩
    unfold execOp
    rw [ho]
    refine VPost.run (u := r) ?_ (.v r)
    rw [he]
    exact hr w E u hu
  unfold convK at h
  split at h
  · obtain ⟨ta, hla, h⟩ := lookK_sound h
    obtain ⟨tb, hlb, h⟩ := lookK_sound h
    split at h
    · rename_i q' hki
      refine main _ h (fun w E u hu => ?_)
      obtain rfl := v_inv hu
      obtain ⟨d, hd⟩ := (tab_ok hC.tab hla).some_run
      have hd' := (tab_ok hC.tab hlb).int_run hki
      cases d <;> simp [convert, run_underlying hd, run_underlying hd', Conv.intToInt, wrapK_eq]
    · obtain ⟨r, hk, hr⟩ := runK_sound h
      refine main r hk (fun w E u hu => ?_)
      obtain rfl := v_inv hu
      exact hr w
  · obtain ⟨r, hk, hr⟩ := runK_sound h
    refine main r hk (fun w E u hu => ?_)
    obtain rfl := v_inv hu
    exact hr w
  · rename_i y ys
    obtain ⟨ta, hla, h⟩ := lookK_sound h
    split at h
    · rename_i e hke
      obtain ⟨te, hle, h⟩ := lookK_sound h
      split at h
      · rename_i hki
        obtain ⟨td, hld, h⟩ := lookK_sound h
        split at h
        · rename_i hkd
          obtain ⟨ns, hns, h⟩ := u8K_sound h
          refine main _ h (fun w E u hu => ?_)
          have hs := (tab_ok hC.tab hla).slice_run hke
          have he := (tab_ok hC.tab hle).int_run hki
          have hd := (tab_ok hC.tab hld).string_run hkd
          generalize hys : y :: ys = zs at hu hns
          have hz : zs ≠ [] := by rw [← hys]; simp
          cases hu with
          | seq sz xs A len cap us hlen hcap hm hsz hl hr hA =>
            have hp : 0 < len := by rw [hlen]; exact List.length_pos_iff.2 hz
            obtain ⟨bb, oo, rfl, _, hc⟩ := hA hp
            have hf : zs.flatten.length = zs.length := by
              rw [List.length_flatten]
              have : ∀ (l : List (List PV)), (∀ x ∈ l, x.length = 1) → (l.map List.length).sum = l.length := by
                intro l
                induction l with
                | nil => intro _; rfl
                | cons x l ih =>
                  intro hh
                  have h1 := hh x List.mem_cons_self
                  have h2 := ih fun z hz => hh z (List.mem_cons_of_mem _ hz)
                  simp only [List.map_cons, List.sum_cons, List.length_cons]
                  omega
              exact this _ hsz
            have hnl : ns.length = len := by
              have := congrArg List.length hns
              rw [List.length_map] at this
              omega
            refine run_convert_bytes_arg w a e hs he bb oo len cap ns hnl (fun i hi => ?_) b hd
            have hi1 : i < us.length := by omega
            have hi2 : i < ns.length := by omega
            have hrr := hr i (.v (.int .u8 ns[i])) us[i] (by rw [hns]; simp [hi2]) (List.getElem?_eq_getElem hi1)
            have := hc i us[i] (List.getElem?_eq_getElem hi1)
            rw [v_inv hrr] at this
            rw [this]
            simp [List.getD, hi2]
        · exact h.elim
      · exact h.elim
    · exact h.elim
  · exact h.elim

/-! ### Maps with strings for keys -/
theorem ba_beq (a b : ByteArray) : (a == b) = decide (a = b) := by
  obtain ⟨a⟩ := a
  obtain ⟨b⟩ := b
  rw [Bool.eq_iff_iff, decide_eq_true_iff]
  show (a == b) = true ↔ _
  simp
theorem findNow_string : ∀ {es : List MapEntry} {ps : List (ByteArray × Value)} {key : ByteArray} {i : Nat}, es.map (fun e => (e.key, e.val)) = ps.map (fun p => (Value.string p.1, p.2)) →
    (Instr.findNow .string (.string key) es i = some none ∧ mpGet ps key = none) ∨ ∃ j v e, Instr.findNow .string (.string key) es i = some (some (i + j, v)) ∧ mpGet ps key = some v ∧ es[j]? = some e ∧ e.key = .string key
  | [], [], key, i, h => .inl ⟨rfl, rfl⟩
  | e :: es, p :: ps, key, i, h => by
    simp only [List.map_cons, List.cons.injEq, Prod.mk.injEq] at h
    obtain ⟨⟨h1, h2⟩, h3⟩ := h
    unfold Instr.findNow mpGet
    rw [h1]
    simp only [Instr.sameNow, ba_beq]
    by_cases hk : key = p.1
    · refine .inr ⟨0, e.val, e, ?_, ?_, rfl, ?_⟩
      · simp [hk]
      · rw [if_pos hk, h2]
      · rw [h1, hk]
    · simp only [hk, decide_false, if_false]
      rcases findNow_string (i := i + 1) (key := key) h3 with ⟨h4, h5⟩ | ⟨j, v, e', h4, h5, h6, h7⟩
      · exact .inl ⟨h4, h5⟩
      · refine .inr ⟨j + 1, v, e', ?_, h5, by simpa using h6, h7⟩
        rw [h4, Nat.add_assoc, Nat.add_comm 1 j]
  | [], _ :: _, key, i, h => by simp at h
  | _ :: _, [], key, i, h => by simp at h
theorem TI.Ok.map_run {P : Program} {t : Nat} {ti : TI} {k e : Nat} (h : TI.Ok P t ti) (hk : ti.kind = .map k e) : P.underlying t = some (.map k e) := by
  obtain ⟨d, hd, hi⟩ := h.desc
  rw [hk] at hi
  cases d <;> simp [TK.is] at hi
  rw [hd, hi.1, hi.2]
theorem run_checkKey {P : Program} {w : World} {k : Nat} {key : ByteArray} (hk : P.underlying k = some .string) (b : Bool) : (Instr.checkKey b 10000 k (.string key)).run P w = .ok () w := by
  have : ∀ n, (Instr.checkKey b (n + 1) k (.string key)).run P w = .ok () w := fun n => by rw [Instr.checkKey]; simp [run_underlying hk]
  exact this 9999
theorem run_lookup {P : Program} {w : World} {t k e g : Nat} {ents : Array MapEntry} {clock : Nat} {ps : List (ByteArray × Value)} {key : ByteArray} {z : Value} (ht : P.underlying t = some (.map k e)) (hk : P.underlying k = some .string)
    (hg : w.heap[g]? = some (.map ents clock)) (he : ents.toList.map (fun e => (e.key, e.val)) = ps.map fun p => (Value.string p.1, p.2)) (hz : (zeroValue e).run P w = .ok z w) :
    (Instr.lookup t (.map (some g)) (.string key) false).run P w = .ok ((mpGet ps key).getD z) w := by
  have hgo : (getObj g).run P w = .ok (.map ents clock) w := by simp [getObj, Sem.run, hg]
  unfold Instr.lookup
  rcases findNow_string (key := key) (i := 0) he with ⟨h1, h2⟩ | ⟨j, v, e', h1, h2, _⟩
  · simp [run_underlying ht, hgo, run_checkKey hk, Instr.findKey, run_underlying hk, h1, h2, hz]
  · simp [run_underlying ht, hgo, run_checkKey hk, Instr.findKey, run_underlying hk, h1, h2]
theorem vop_lookup (hC : C.Good) {t : Nat} {A A' : Operand} (ho : o.op = .lookup t A A' false) {x y : SV} {k : SV → Prop} (h : lookupK C s t x y k) : ∃ v, VOk C s o [x, y] v ∧ k v := by
  unfold lookupK at h
  split at h
  case h_2 => exact h.elim
  rename_i g key
  obtain ⟨n, g', es, hn, h2⟩ := mpK_sound h
  clear h
  obtain ⟨e, h⟩ := h2
  subst e
  obtain ⟨ti, hl, h⟩ := lookK_sound h
  split at h
  case h_2 => exact h.elim
  rename_i kt et hki
  obtain ⟨tk, hlk, h⟩ := lookK_sound h
  split at h
  case h_2 => exact h.elim
  rename_i hkk
  obtain ⟨te, hle, h⟩ := lookK_sound h
  split at h
  case h_2 => exact h.elim
  rename_i z hz
  obtain ⟨hzr, h⟩ := h
  have ht := (tab_ok hC.tab hl).map_run hki
  have hk := (tab_ok hC.tab hlk).string_run hkk
  have main : ∀ r : Value, (mpGet es key).getD z = r → VOk C s o [.p (.v (.map (some g'))), .p (.v (.string key))] (.p (.v r)) := fun r hr =>
    vok2 ⟨A, A', by rw [ho]; rfl, fun w E u u' ρ B hM hB hok he he' hu hu' => by
      obtain rfl := v_inv hu
      obtain rfl := v_inv hu'
      obtain ⟨_, _, x, hx, _, ents, clock, rfl, hes⟩ := hM.ob n _ hn
      unfold execOp
      rw [ho]
      refine VPost.run (u := r) ?_ (.v r)
      rw [he, he', ← hr]
      exact run_lookup ht hk hx hes (hzr w)⟩
  split at h
  · obtain ⟨b, hb, h⟩ := h
    cases b with
    | true => exact ⟨_, main _ hb, h.t rfl⟩
    | false => exact ⟨_, main _ hb, h.f (by simp)⟩
  · obtain ⟨r, hr, h⟩ := h
    exact ⟨_, main r hr, h⟩
/-- **ONE OPERATION**: if the evaluation goes on, there is the value with which it goes on, and the operation gives it. -/
theorem vop_sound (hC : C.Good) {xs : List SV} {k : SV → Prop} (h : vop C s o xs k) : ∃ v, VOk C s o xs v ∧ k v := by
  have same : ∀ (A : Operand) (x : SV), o.op.operands.toList = [A] → (∀ ρ : Operand → Value, (∀ (w : World) (E : Env) (u : Value), ρ A = u → SRep w E x u → (execOp ρ o).run C.P w = .ok (.value u) w)) → VOk C s o [x] x := by
    intro A x hop hr
    exact vok1 ⟨A, hop, fun w E u ρ B hM hB hok he hu => by rw [hr ρ w E u he hu]; exact VPost.same hu⟩
  unfold vop at h
  split at h
  case h_1 A x hop => exact ⟨x, same A x (by rw [hop]; rfl) (fun ρ w E u he hu => by unfold execOp; rw [hop]; simp [he]), h⟩
  case h_2 A x hop => exact ⟨x, same A x (by rw [hop]; rfl) (fun ρ w E u he hu => by unfold execOp; rw [hop]; simp [he]), h⟩
  case h_3 c A A' x y hop =>
    refine ⟨x, vok3 ⟨c, A, A', by rw [hop]; rfl, fun w E u u' u'' ρ B hM hB hok he he' he'' hu hu' hu'' => ?_⟩, h⟩
    obtain rfl := v_inv hu
    unfold execOp
    rw [hop]
    simp only [he, he', he'', asBool, Sem.run_bind, Sem.run_pure, Result.andThen_ok, if_true]
    exact VPost.same hu'
  case h_4 c A A' x y hop =>
    refine ⟨y, vok3 ⟨c, A, A', by rw [hop]; rfl, fun w E u u' u'' ρ B hM hB hok he he' he'' hu hu' hu'' => ?_⟩, h⟩
    obtain rfl := v_inv hu
    unfold execOp
    rw [hop]
    simp only [he, he', he'', asBool, Sem.run_bind, Sem.run_pure, Result.andThen_ok, Bool.false_eq_true, if_false]
    exact VPost.same hu''
  case h_5 t A x hop => exact vop_box hop h
  case h_6 t A x hop => exact vop_load hC hop h
  case h_7 A cs hop =>
    refine ⟨_, same A _ (by rw [hop]; rfl) (fun ρ w E u he hu => ?_), h⟩
    obtain ⟨b, off, us, rfl, _⟩ := ref_inv hu
    unfold execOp
    rw [hop]
    simp [he]
  case h_8 A n off hop =>
    refine ⟨_, same A _ (by rw [hop]; rfl) (fun ρ w E u he hu => ?_), h⟩
    obtain ⟨g, hg, rfl⟩ := hu
    unfold execOp
    rw [hop]
    simp [he]
  case h_9 A g cs hop =>
    refine ⟨_, same A _ (by rw [hop]; rfl) (fun ρ w E u he hu => ?_), h⟩
    obtain ⟨us, rfl, _⟩ := fn_inv hu
    unfold execOp
    rw [hop]
    simp [he]
  case h_10 op t A A' ty x y hop => exact vop_bin hop h
  case h_11 op t A x hop => exact vop_un hop h
  case h_12 a b A x hop => exact vop_conv hC hop h
  case h_13 g caps hop =>
    obtain ⟨l, h2, rfl⟩ := pureK_sound h
    refine ⟨_, fun B w E us a hM hB hok hG hx hus => ?_, h2⟩
    have hr := hx.pures
    rw [hop] at hus
    simp only [Op.operands, Array.empty_append] at hus
    unfold execOp
    rw [hop]
    refine VPost.run (u := .func (.func g) #[] us.toArray) ?_ (.fn g l us hr.1 hr.2)
    have : caps.map a.eval = us.toArray := by
      rw [← hus]
      simp [← Array.toList_map]
    simp [Instr.makeFunc, this]
  case h_14 A i vs hop =>
    obtain ⟨v, hv, h⟩ := nthK_sound h
    refine ⟨_, vok1 ⟨A, by rw [hop]; rfl, fun w E u ρ B hM hB hok he hu => ?_⟩, h⟩
    obtain ⟨us, rfl, hr⟩ := tup_inv hu
    obtain ⟨u, hu1, hu2⟩ := hr.get hv
    unfold execOp
    rw [hop]
    refine VPost.run (u := u) ?_ hu2
    simp [he, Instr.extract, hu1]
  case h_15 t A i x hop => exact vop_fieldAddr hC hop h
  case h_16 t A i cs hop => exact vop_field hC hop h
  case h_17 t A A' x q i hop => exact vop_indexAddr hC hop h
  case h_18 t A A' x q i hop => exact vop_index hC hop h
  case h_19 t parts hop => exact vop_build hC hop h
  case h_20 t n parts hop => exact vop_buildSlice hC hop h
  case h_21 t A x hop =>
    obtain ⟨v, hk, hs⟩ := sliceK_sound hC h
    refine ⟨v, vok1 ⟨A, by rw [hop]; rfl, fun w E u ρ B hM hB hok he hu => ?_⟩, hk⟩
    obtain ⟨r, hr, hv⟩ := hs w E u none none hok hu (fun y hy => by cases hy) (fun _ => rfl) (fun y hy => by cases hy) (fun _ => rfl)
    unfold execOp
    rw [hop]
    refine VPost.run (u := r) ?_ hv
    simp only [he, Option.map_none]
    exact hr
  case h_22 t A L x i hop =>
    obtain ⟨v, hk, hs⟩ := sliceK_sound hC h
    refine ⟨v, vok2 ⟨A, L, by rw [hop]; rfl, fun w E u u' ρ B hM hB hok he he' hu hu' => ?_⟩, hk⟩
    obtain ⟨r, hr, hv⟩ := hs w E u (some u') none hok hu (fun y hy => by cases hy; exact ⟨u', rfl, hu'⟩) (fun h => by cases h) (fun y hy => by cases hy) (fun _ => rfl)
    unfold execOp
    rw [hop]
    refine VPost.run (u := r) ?_ hv
    simp only [he, he', Option.map_none, Option.map_some]
    exact hr
  case h_23 t A L x i hop =>
    obtain ⟨v, hk, hs⟩ := sliceK_sound hC h
    refine ⟨v, vok2 ⟨A, L, by rw [hop]; rfl, fun w E u u' ρ B hM hB hok he he' hu hu' => ?_⟩, hk⟩
    obtain ⟨r, hr, hv⟩ := hs w E u none (some u') hok hu (fun y hy => by cases hy) (fun _ => rfl) (fun y hy => by cases hy; exact ⟨u', rfl, hu'⟩) (fun h => by cases h)
    unfold execOp
    rw [hop]
    refine VPost.run (u := r) ?_ hv
    simp only [he, he', Option.map_none, Option.map_some]
    exact hr
  case h_24 t A L L' x i j hop =>
    obtain ⟨v, hk, hs⟩ := sliceK_sound hC h
    refine ⟨v, vok3 ⟨A, L, L', by rw [hop]; rfl, fun w E u u' u'' ρ B hM hB hok he he' he'' hu hu' hu'' => ?_⟩, hk⟩
    obtain ⟨r, hr, hv⟩ := hs w E u (some u') (some u'') hok hu (fun y hy => by cases hy; exact ⟨u', rfl, hu'⟩) (fun h => by cases h) (fun y hy => by cases hy; exact ⟨u'', rfl, hu''⟩) (fun h => by cases h)
    unfold execOp
    rw [hop]
    refine VPost.run (u := r) ?_ hv
    simp only [he, he', he'', Option.map_none, Option.map_some]
    exact hr
  case h_25 b args ts hop => exact builtinK_sound hC (c := ⟨.builtin b, args, ts⟩) rfl hop h
  case h_26 A args ts f xs hop => exact vop_call (c := ⟨.value A, args, ts⟩) rfl hop h
  case h_27 t A A' x y hop => exact vop_lookup hC hop h
  case h_28 => exact h.elim
end
end Go.Proofs.Ab
end
section
/- The states of a frame against the model's, and what an operation makes of them. -/
set_option linter.unusedVariables false
set_option linter.unusedSimpArgs false
namespace Go.Proofs.Ab
open Go Go.RowKit

/-- What is no cells, and what holds a row, lies apart from the boxes and the rows. -/
structure ObDis (bx : List (Nat × (Nat × List PV))) (rw : List (Nat × (Nat × Nat × List (List PV)))) (ob : List (Nat × Ob)) (β : Nat → Option Nat) (ν : Nat → Option Value) : Prop where
  oo : ∀ n m x y, look ob n = some x → look ob m = some y → x.blk = y.blk → n = m
  bo : ∀ n m x y, look bx n = some x → look ob m = some y → β n ≠ some y.blk
  ro : ∀ n m x y v, look rw n = some x → look ob m = some y → ν n = some v → v.ownBlock ≠ some y.blk
/-- What a state says of a frame and a world. (B: the heap's size when the call began; ok0: the blocks that stayed then.) -/
structure Sat (C : Cx) (nt : Nat) (s : AS) (B : Nat) (ok0 : Base) (w0 : World) (a : Act) (w : World) (E : Env) : Prop where
  defs : a.defers = s.df.map fun g => ⟨.collected g, #[]⟩
  size : a.tmps.size = nt
  fr : ∀ t v, look s.fr t = some v → t < nt ∧ SRep w E v (a.tmps.getD t undef)
  mem : Mem s B w E
  bb : ∀ n m x y g, look s.bx n = some x → look s.bx m = some y → E.β n = some g → E.β m = some g → n = m
  br : ∀ n m x y g v, look s.bx n = some x → look s.rw m = some y → E.β n = some g → E.ν m = some v → v.ownBlock ≠ some g
  rr : ∀ n m x y g v v', look s.rw n = some x → look s.rw m = some y → E.ν n = some v → E.ν m = some v' → v.ownBlock = some g → v'.ownBlock = some g → n = m
  fresh : ∀ n, s.nx ≤ n → E.β n = none ∧ E.ν n = none
  ok_lt : ∀ b, E.ok b → b < w.heap.size
  ok_from : ∀ b, E.ok b → ok0 b ∨ B ≤ b
  ok_all : ∀ b, ok0 b → E.ok b
  hB : B = w0.heap.size
  below : Below B w0 w
  glob : GlobOk C w E.ok
  svs : ∀ t v, look s.sv t = some v → SRep w E v (ok0.sv t)
  od : ObDis s.bx s.rw s.ob E.β E.ν

/-- The environment, grown. -/
structure Env.Le (E E' : Env) : Prop where
  ok : ∀ b, E.ok b → E'.ok b
  β : ∀ n g, E.β n = some g → E'.β n = some g
  ν : ∀ n v, E.ν n = some v → E'.ν n = some v

theorem SRep.ext {w w' : World} {E E' : Env} {x : SV} {u : Value} (h : SRep w E x u) (hE : E.Le E') (hh : ∀ b, E.ok b → w'.heap[b]? = w.heap[b]?) : SRep w' E' x u := by
  cases x with
  | p x => exact Rep.ext h hE.ok hh
  | box n off =>
    obtain ⟨g, hg, rfl⟩ := h
    exact ⟨g, hE.β n g hg, rfl⟩
  | own n => exact hE.ν n u h
  | rowp n off =>
    obtain ⟨g, len, cap, hg, rfl⟩ := h
    exact ⟨g, len, cap, hE.ν n _ hg, rfl⟩
  | clo g cs =>
    obtain ⟨us, rfl, hl, hc⟩ := h
    refine ⟨us, rfl, hl, fun j c x h1 h2 => ?_⟩
    have := hc j c x h1 h2
    cases c with
    | p y => exact Rep.ext this hE.ok hh
    | box n off =>
      obtain ⟨g, hg, e⟩ := this
      exact ⟨g, hE.β n g hg, e⟩
  | bnd g cs =>
    obtain ⟨us, rfl, hl, hc⟩ := h
    refine ⟨us, rfl, hl, fun j c x h1 h2 => ?_⟩
    have := hc j c x h1 h2
    cases c with
    | p y => exact Rep.ext this hE.ok hh
    | box n off =>
      obtain ⟨g, hg, e⟩ := this
      exact ⟨g, hE.β n g hg, e⟩

theorem Ob.Is.ext {w w' : World} {E E' : Env} {o : Ob} {x : Obj} (h : o.Is w E x) (hE : E.Le E') (hh : ∀ b, E.ok b → w'.heap[b]? = w.heap[b]?) : o.Is w' E' x := by
  cases o with
  | siter g s pos => exact h
  | mp g es => exact h
  | dfr g => exact h
  | hold g T x => obtain ⟨u, h1, h2⟩ := h; exact ⟨u, h1.ext hE hh, h2⟩
  | hst g T nc sn => obtain ⟨us, h1, h2, h3⟩ := h; exact ⟨us, h1, h2, fun t v hv => ⟨(h3 t v hv).1, (h3 t v hv).2.ext hE hh⟩⟩
  | loop g st nt sn L =>
    obtain ⟨r, h1, h2, h3, h4, h5, h6, h7⟩ := h
    exact ⟨r, h1, h2, h3, h4, h5, h6, fun t v hv => ⟨(h7 t v hv).1, (h7 t v hv).2.ext hE hh⟩⟩
/-- What is no cells stays through whatever writes cells. -/
theorem obs_ext {l : List (Nat × Ob)} {B : Nat} {w w' : World} {E E' : Env} (h : ∀ n o, look l n = some o → B ≤ o.blk ∧ ¬ E.ok o.blk ∧ ∃ x : Obj, w.heap[o.blk]? = some x ∧ (o.isHold = true → E.β n = some o.blk) ∧ o.Is w E x)
    (hE : E.Le E') (hh : ∀ b, E.ok b → w'.heap[b]? = w.heap[b]?) (hok : ∀ (n : Nat) (o : Ob), look l n = some o → ∀ x, w.heap[o.blk]? = some x → ¬ E.ok o.blk → ¬ E'.ok o.blk) (hsame : ∀ (n : Nat) (o : Ob), look l n = some o → ∀ x, w.heap[o.blk]? = some x → w'.heap[o.blk]? = some x) :
    ∀ n o, look l n = some o → B ≤ o.blk ∧ ¬ E'.ok o.blk ∧ ∃ x : Obj, w'.heap[o.blk]? = some x ∧ (o.isHold = true → E'.β n = some o.blk) ∧ o.Is w' E' x := fun n o hn => by
  obtain ⟨h1, h2, x, h3, h4, h5⟩ := h n o hn
  exact ⟨h1, hok n o hn x h3 h2, x, hsame n o hn x h3, fun hh => hE.β _ _ (h4 hh), h5.ext hE hh⟩

section
variable {C : Cx} {nt : Nat} {s : AS} {B : Nat} {ok0 : Base} {w0 : World} {a : Act} {w w' : World} {E : Env}

theorem Sat.size_le (h : Sat C nt s B ok0 w0 a w E) : B ≤ w.heap.size := by rw [h.hB]; exact h.below.size

/-- The world has only grown: the state says what it said; the new blocks stay. -/
theorem Sat.grow (h : Sat C nt s B ok0 w0 a w E) (hb : Below w.heap.size w w') : Sat C nt s B ok0 w0 a w' { E with ok := Ab.grow E.ok w w' } := by
  have hle : E.Le { E with ok := Ab.grow E.ok w w' } := ⟨fun b hb => .inl hb, fun _ _ h => h, fun _ _ h => h⟩
  have hh : ∀ b, E.ok b → w'.heap[b]? = w.heap[b]? := fun b hk => hb.block b (h.ok_lt b hk)
  have hB := h.size_le
  refine ⟨h.defs, h.size, fun t v hv => ⟨(h.fr t v hv).1, (h.fr t v hv).2.ext hle hh⟩, ⟨?_, ?_, obs_ext h.mem.ob hle hh (fun _ _ _ x hx hn hk => hk.elim hn (fun hk => by have := (Array.getElem?_eq_some_iff.1 hx).1; omega)) (fun _ _ _ x hx => (hb.block _ (Array.getElem?_eq_some_iff.1 hx).1).trans hx)⟩, h.bb, h.br, h.rr, h.fresh, ?_, ?_, fun b hb => .inl (h.ok_all b hb), h.hB, ?_, h.glob.ext hle.ok hh, fun t v hv => (h.svs t v hv).ext hle hh, h.od⟩
  · intro n T cs hn
    obtain ⟨g, us, hg, hBg, hok, hgg, hr⟩ := h.mem.bx n T cs hn
    have hlt : g < w.heap.size := (Array.getElem?_eq_some_iff.1 hgg).1
    exact ⟨g, us, hg, hBg, fun hk => by rcases hk with hk | hk; exact hok hk; omega, (hb.block g hlt).trans hgg, hr.ext hle.ok hh⟩
  · intro n e sz xs hn
    obtain ⟨v, us, hv, ho, hsz, hr, hok⟩ := h.mem.rw n e sz xs hn
    refine ⟨v, us, hv, ho.kept (row := none) ⟨hb.os, hb.tape, hb.output, hb.size, fun k hk _ => hb.block k hk⟩ (by cases v.ownBlock <;> simp), hsz, hr.ext hle.ok hh, fun g hg hk => ?_⟩
    rcases hk with hk | hk
    · exact hok g hg hk
    · have := (ho.lt g hg).2; omega
  · intro b hk
    rcases hk with hk | hk
    · exact Nat.lt_of_lt_of_le (h.ok_lt b hk) hb.size
    · exact hk.2
  · intro b hk
    rcases hk with hk | hk
    · exact h.ok_from b hk
    · exact .inr (by omega)
  · exact h.below.trans (hb.mono hB)

/-- A slot is written. -/
theorem Sat.put (h : Sat C nt s B ok0 w0 a w E) {fr' : List (Nat × SV)} {d : Nat} {v : SV} {u : Value} (hd : d < nt) (hfr : ∀ t, t ≠ d → ∀ x, look fr' t = some x → look s.fr t = some x) (hv : ∀ x, look fr' d = some x → x = v) (hu : SRep w E v u) :
    Sat C nt { s with fr := fr' } B ok0 w0 { a with tmps := a.tmps.setIfInBounds d u } w E := by
  refine ⟨h.defs, by simpa using h.size, fun t x hx => ?_, ⟨h.mem.bx, h.mem.rw, h.mem.ob⟩, h.bb, h.br, h.rr, h.fresh, h.ok_lt, h.ok_from, h.ok_all, h.hB, h.below, h.glob, h.svs, h.od⟩
  by_cases e : t = d
  · subst e
    obtain rfl := hv x hx
    refine ⟨hd, ?_⟩
    have : (a.tmps.setIfInBounds t u).getD t undef = u := by simp [Array.getD, h.size, hd]
    rw [this]
    exact hu
  · have h1 := h.fr t x (hfr t e x hx)
    refine ⟨h1.1, ?_⟩
    have : (a.tmps.setIfInBounds d u).getD t undef = a.tmps.getD t undef := by
      have e' : ¬ d = t := fun h => e h.symm
      by_cases ht : t < a.tmps.size <;> simp [Array.getD, ht, Array.getElem_setIfInBounds, e']
    rw [this]
    exact h1.2

/-- The first of a slot's entries is struck. -/
def eraseK : List (Nat × SV) → Nat → (List (Nat × SV) → Prop) → Prop
  | [], _, k => k []
  | (n, x) :: r, t, k => bif Nat.beq n t then k r else eraseK r t fun l => k ((n, x) :: l)
theorem eraseK_sound : ∀ {l : List (Nat × SV)} {d : Nat} {k : List (Nat × SV) → Prop}, eraseK l d k → ∃ l', k l' ∧ ∀ t, t ≠ d → ∀ x, look l' t = some x → look l t = some x
  | [], d, k, h => ⟨[], h, fun t _ x hx => hx⟩
  | (n, y) :: r, d, k, h => by
    unfold eraseK at h
    cases hb : Nat.beq n d with
    | true =>
      rw [hb] at h
      obtain rfl := Nat.eq_of_beq_eq_true hb
      refine ⟨r, h, fun t ht x hx => ?_⟩
      unfold look
      have : Nat.beq n t = false := by
        cases hc : Nat.beq n t with
        | false => rfl
        | true => exact absurd (Nat.eq_of_beq_eq_true hc).symm ht
      rw [this]
      exact hx
    | false =>
      rw [hb] at h
      obtain ⟨l', hk, hl⟩ := eraseK_sound (l := r) (d := d) (k := fun l => k ((n, y) :: l)) h
      refine ⟨_, hk, fun t ht x hx => ?_⟩
      unfold look at hx ⊢
      cases hc : Nat.beq n t with
      | true => rw [hc] at hx; exact hx
      | false => rw [hc] at hx; exact hl t ht x hx
/-! The states are taken apart and put together again, so that no state holds another one within. -/
def setFr (s : AS) (fr : List (Nat × SV)) (K : AS → Prop) : Prop := match s with | ⟨_, b, r, n, v, o, d⟩ => K ⟨fr, b, r, n, v, o, d⟩
theorem setFr_eq {s : AS} {fr : List (Nat × SV)} {K : AS → Prop} : setFr s fr K = K { s with fr := fr } := rfl
def setBx (s : AS) (bx : List (Nat × (Nat × List PV))) (K : AS → Prop) : Prop := match s with | ⟨f, _, r, n, v, o, d⟩ => K ⟨f, bx, r, n, v, o, d⟩
theorem setBx_eq {s : AS} {bx : List (Nat × (Nat × List PV))} {K : AS → Prop} : setBx s bx K = K { s with bx := bx } := rfl
def setFB (s : AS) (fr : List (Nat × SV)) (bx : List (Nat × (Nat × List PV))) (K : AS → Prop) : Prop := match s with | ⟨_, _, r, n, v, o, d⟩ => K ⟨fr, bx, r, n, v, o, d⟩
theorem setFB_eq {s : AS} {fr : List (Nat × SV)} {bx : List (Nat × (Nat × List PV))} {K : AS → Prop} : setFB s fr bx K = K { s with fr := fr, bx := bx } := rfl
def addBx (s : AS) (x : Nat × List PV) (K : AS → Nat → Prop) : Prop := match s with | ⟨f, b, r, n, v, o, d⟩ => K ⟨f, (n, x) :: b, r, n + 1, v, o, d⟩ n
def addRw (s : AS) (rw : List (Nat × (Nat × Nat × List (List PV)))) (x : Nat × Nat × List (List PV)) (K : AS → Nat → Prop) : Prop := match s with | ⟨f, b, _, n, v, o, d⟩ => K ⟨f, b, (n, x) :: rw, n + 1, v, o, d⟩ n
theorem addRw_eq {s : AS} {rw : List (Nat × (Nat × Nat × List (List PV)))} {x : Nat × Nat × List (List PV)} {K : AS → Nat → Prop} : addRw s rw x K = K { s with rw := (s.nx, x) :: rw, nx := s.nx + 1 } s.nx := rfl
def setFRN (s : AS) (t : Nat) (fr : List (Nat × SV)) (x : Nat × Nat × List (List PV)) (K : AS → Prop) : Prop := match s with | ⟨_, b, r, n, v, o, d⟩ => K ⟨(t, .own n) :: fr, b, (n, x) :: r, n + 1, v, o, d⟩
theorem setFRN_eq {s : AS} {t : Nat} {fr : List (Nat × SV)} {x : Nat × Nat × List (List PV)} {K : AS → Prop} : setFRN s t fr x K = K { s with fr := (t, .own s.nx) :: fr, rw := (s.nx, x) :: s.rw, nx := s.nx + 1 } := rfl
def addBxAt (s0 : AS) (i : Nat) (s : AS) (x : Nat × List PV) (K : AS → Nat → Prop) : Prop := match s0, s with | ⟨_, _, _, n0, _, _, _⟩, ⟨f, b, r, n, v, o, d⟩ => K ⟨f, (n0 + i, x) :: b, r, n, v, o, d⟩ (n0 + i)
theorem addBxAt_eq {s0 s : AS} {i : Nat} {x : Nat × List PV} {K : AS → Nat → Prop} : addBxAt s0 i s x K = K { s with bx := (s0.nx + i, x) :: s.bx } (s0.nx + i) := rfl
def setNx (s0 : AS) (i : Nat) (s : AS) (K : AS → Prop) : Prop := match s0, s with | ⟨_, _, _, n0, _, _, _⟩, ⟨f, b, r, _, v, o, d⟩ => K ⟨f, b, r, n0 + i, v, o, d⟩
theorem setNx_eq {s0 s : AS} {i : Nat} {K : AS → Prop} : setNx s0 i s K = K { s with nx := s0.nx + i } := rfl
def addOb (s : AS) (x : Ob) (K : AS → Prop) : Prop := match s with | ⟨f, b, r, n, v, o, d⟩ => K ⟨f, b, r, n + 1, v, (n, x) :: o, d⟩
theorem addOb_eq {s : AS} {x : Ob} {K : AS → Prop} : addOb s x K = K { s with ob := (s.nx, x) :: s.ob, nx := s.nx + 1 } := rfl
def setOb (s : AS) (ob : List (Nat × Ob)) (K : AS → Prop) : Prop := match s with | ⟨f, b, r, n, v, _, d⟩ => K ⟨f, b, r, n, v, ob, d⟩
theorem setOb_eq {s : AS} {ob : List (Nat × Ob)} {K : AS → Prop} : setOb s ob K = K { s with ob := ob } := rfl
def putFK (nt : Nat) (s : AS) (dst : Option Nat) (v : SV) (K : AS → Prop) : Prop :=
  match dst with
  | none => K s
  | some d => bif Nat.blt d nt then eraseK s.fr d fun fr => setFr s ((d, v) :: fr) K else False
theorem putFK_sound {dst : Option Nat} {v : SV} {K : AS → Prop} (hp : putFK nt s dst v K) : ∃ s', K s' ∧ s'.bx = s.bx ∧ s'.rw = s.rw ∧ s'.nx = s.nx ∧
    ∀ {B : Nat} {ok0 : Base} {w0 : World} {a : Act} {w : World} {E : Env} {u : Value}, Sat C nt s B ok0 w0 a w E → SRep w E v u → Sat C nt s' B ok0 w0 (a.put dst u) w E := by
  cases dst with
  | none => exact ⟨s, hp, rfl, rfl, rfl, fun h _ => h⟩
  | some d =>
    unfold putFK at hp
    cases hb : Nat.blt d nt with
    | false => simp [hb] at hp
    | true =>
      have hd : d < nt := by simpa [Nat.blt_eq] using hb
      simp only [hb, cond_true] at hp
      obtain ⟨fr', hk, hl⟩ := eraseK_sound hp
      rw [setFr_eq] at hk
      refine ⟨_, hk, rfl, rfl, rfl, fun h hu => ?_⟩
      refine h.put hd (fun t ht x hx => ?_) (fun x hx => ?_) hu
      · unfold look at hx
        have : Nat.beq d t = false := by
          cases hc : Nat.beq d t with
          | false => rfl
          | true => exact absurd (Nat.eq_of_beq_eq_true hc).symm ht
        rw [this] at hx
        exact hl t ht x hx
      · unfold look at hx
        have : Nat.beq d d = true := Nat.beq_refl d
        rw [this] at hx
        simpa using hx.symm

/-- An operand. -/
def operK (C : Cx) (s : AS) (A : Operand) (k : SV → Prop) : Prop :=
  match A with
  | .tmp t => lookK s.fr t k
  | .const v => (match v with
    | .agg ⟨cs⟩ => zeroK cs fun l => k (.p (.agg l))
    | v => k (.p (.v v)))
  | .func f => k (.p (.fn f []))
  | .global g => lookK C.glob g fun cs => k (.p (.ref cs))
theorem operK_sound {A : Operand} {k : SV → Prop} (hp : operK C s A k) : ∃ v, k v ∧ (∀ {B : Nat} {ok0 : Base} {w0 : World} {a : Act} {w : World} {E : Env}, Sat C nt s B ok0 w0 a w E → SRep w E v (a.eval A)) := by
  cases A with
  | tmp t =>
    obtain ⟨v, hv, hk⟩ := lookK_sound hp
    exact ⟨v, hk, fun h => (h.fr t v hv).2⟩
  | const v =>
    cases v with
    | agg cs =>
      obtain ⟨cs⟩ := cs
      have hk := zeroK_sound (vs := cs) (k := fun l => k (.p (.agg l))) hp
      refine ⟨_, hk, fun h => .agg _ cs (by simp) (fun j c u hc hu => ?_)⟩
      simp only [List.getElem?_map, Option.map_eq_some_iff] at hc
      obtain ⟨x, hx, rfl⟩ := hc
      rw [hx] at hu
      injection hu with hu
      subst hu
      exact .v _
    | _ => exact ⟨_, hp, fun h => .v _⟩
  | func f => exact ⟨_, hp, fun h => .fn f [] [] rfl (fun j c u hc => by simp at hc)⟩
  | global g =>
    obtain ⟨cs, hl, hk⟩ := lookK_sound hp
    exact ⟨_, hk, fun h => h.glob.1 g cs hl⟩
def opersK (C : Cx) (s : AS) : List Operand → (List SV → Prop) → Prop
  | [], k => k []
  | A :: As, k => operK C s A fun x => opersK C s As fun xs => k (x :: xs)
theorem opersK_sound : ∀ {As : List Operand} {k : List SV → Prop}, opersK C s As k → ∃ xs, k xs ∧ (∀ {B : Nat} {ok0 : Base} {w0 : World} {a : Act} {w : World} {E : Env}, Sat C nt s B ok0 w0 a w E → SRepL w E xs (As.map a.eval))
  | [], k, hp => ⟨[], hp, fun h => .nil⟩
  | A :: As, k, hp => by
    obtain ⟨x, hk, hx⟩ := operK_sound (nt := nt) hp
    obtain ⟨xs, hk, hxs⟩ := opersK_sound hk
    exact ⟨_, hk, fun h => .cons (hx h) (hxs h)⟩

/-- An operation that gives a value, carried out. -/
theorem wp_of_vok {o : Oper} {xs : List SV} {v : SV} (hv : VOk C s o xs v) (h : Sat C nt s B ok0 w0 a w E) (hx : SRepL w E xs (o.op.operands.toList.map a.eval)) {next : Act → World → Prop} {Q : Exit → Act → World → Prop}
    (hk : ∀ w' E' u, Sat C nt s B ok0 w0 a w' E' → SRep w' E' v u → Below w.heap.size w w' → next (a.put o.dst u) w') : o.wp C.P a w next Q := by
  have hp := hv B w E _ a h.mem h.size_le h.ok_lt h.glob hx rfl
  unfold Oper.wp
  revert hp
  generalize (execOp a.eval o).run C.P w = r
  intro hp
  cases r with
  | halt x w' => exact hp.elim
  | ok n w' =>
    cases n with
    | value u => exact hk w' _ u (h.grow hp.1) hp.2 hp.1
    | enter f args =>
      obtain ⟨rfl, hc⟩ := hp
      refine hc.mono ?_
      rintro e w'' ⟨u, rfl, hb, hu⟩
      exact hk w'' _ u (h.grow hb) hu hb
    | _ => exact hp.elim
end
end Go.Proofs.Ab
end
section
/- What an operation makes of a frame's own memory: a new variable, a store, an append; and a region in the text's order. -/
set_option linter.unusedVariables false
set_option linter.unusedSimpArgs false
namespace Go.Proofs.Ab
open Go Go.RowKit

section
variable {C : Cx} {nt : Nat} {s : AS} {B : Nat} {ok0 : Base} {w0 : World} {a : Act} {w w' : World} {E : Env}

theorem look_cons_self {α : Type} {l : List (Nat × α)} {n : Nat} {x : α} : look ((n, x) :: l) n = some x := by
  unfold look
  rw [Nat.beq_refl n]
  rfl
theorem look_cons_ne {α : Type} {l : List (Nat × α)} {n m : Nat} {x : α} (h : n ≠ m) : look ((n, x) :: l) m = look l m := by
  rw [look]
  have : Nat.beq n m = false := by
    cases hc : Nat.beq n m with
    | false => rfl
    | true => exact absurd (Nat.eq_of_beq_eq_true hc) h
  rw [this]
  rfl

theorem Sat.ob_lt (h : Sat C nt s B ok0 w0 a w E) {m : Nat} {y : Ob} (hm : look s.ob m = some y) : y.blk < w.heap.size := by
  obtain ⟨_, _, z, hz, _⟩ := h.mem.ob m y hm
  exact (Array.getElem?_eq_some_iff.1 hz).1
theorem Sat.bx_lt (h : Sat C nt s B ok0 w0 a w E) {n g : Nat} {x : Nat × List PV} (hn : look s.bx n = some x) (hg : E.β n = some g) : g < w.heap.size := by
  obtain ⟨g', us, hg', _, _, hgg, _⟩ := h.mem.bx n x.1 x.2 hn
  rw [hg] at hg'
  injection hg' with hg'
  subst hg'
  exact (Array.getElem?_eq_some_iff.1 hgg).1
theorem Sat.rw_lt (h : Sat C nt s B ok0 w0 a w E) {n g : Nat} {x : Nat × Nat × List (List PV)} {v : Value} (hn : look s.rw n = some x) (hv : E.ν n = some v) (hg : v.ownBlock = some g) : g < w.heap.size := by
  obtain ⟨v', us, hv', ho, _⟩ := h.mem.rw n x.1 x.2.1 x.2.2 hn
  rw [hv] at hv'
  injection hv' with hv'
  subst hv'
  exact (ho.lt g hg).2
/-- A new box of the frame's own. -/
theorem Sat.newBox (h : Sat C nt s B ok0 w0 a w E) (t : Nat) {cs : List PV} {us : List Value} (hr : RepL w E.ok cs us) :
    ∃ E', E.Le E' ∧ SRep (w.alloc (.cells us.toArray t)) E' (.box s.nx 0) (.pointer (some ⟨w.heap.size, 0, none⟩)) ∧
      Sat C nt { s with bx := (s.nx, (t, cs)) :: s.bx, nx := s.nx + 1 } B ok0 w0 a (w.alloc (.cells us.toArray t)) E' := by
  have hb : Below w.heap.size w (w.alloc (.cells us.toArray t)) := (Below.refl _ _).alloc (Nat.le_refl _) _
  have hf := h.fresh s.nx (Nat.le_refl _)
  have hβ : ∀ n g, E.β n = some g → (if n = s.nx then some w.heap.size else E.β n) = some g := by
    intro n g hg
    split
    · rename_i e; subst e; rw [hf.1] at hg; cases hg
    · exact hg
  have hle : E.Le { E with β := fun n => if n = s.nx then some w.heap.size else E.β n } := ⟨fun _ h => h, hβ, fun _ _ h => h⟩
  have hh : ∀ b, E.ok b → (w.alloc (.cells us.toArray t)).heap[b]? = w.heap[b]? := fun b hk => hb.block b (h.ok_lt b hk)
  have hlt : ∀ n x, look s.bx n = some x → n ≠ s.nx := by
    intro n x hn e
    obtain ⟨g, us, hg, _⟩ := h.mem.bx n x.1 x.2 hn
    rw [e, hf.1] at hg
    cases hg
  have hcells : ∀ n x g, look s.bx n = some x → E.β n = some g → g < w.heap.size := by
    intro n x g hn hg
    obtain ⟨g', us, hg', _, _, hgg, _⟩ := h.mem.bx n x.1 x.2 hn
    rw [hg] at hg'
    injection hg' with hg'
    subst hg'
    exact (Array.getElem?_eq_some_iff.1 hgg).1
  have hrows : ∀ n x v g, look s.rw n = some x → E.ν n = some v → v.ownBlock = some g → g < w.heap.size := by
    intro n x v g hn hv hg
    obtain ⟨v', us, hv', ho, _⟩ := h.mem.rw n x.1 x.2.1 x.2.2 hn
    rw [hv] at hv'
    injection hv' with hv'
    subst hv'
    exact (ho.lt g hg).2
  refine ⟨_, hle, ⟨w.heap.size, by simp, rfl⟩, h.defs, h.size, fun t v hv => ⟨(h.fr t v hv).1, (h.fr t v hv).2.ext hle hh⟩, ⟨?_, ?_, obs_ext h.mem.ob hle hh (fun _ _ _ _ _ hn => hn) (fun _ _ _ x hx => (hb.block _ (Array.getElem?_eq_some_iff.1 hx).1).trans hx)⟩, ?_, ?_, h.rr, ?_, ?_, h.ok_from, h.ok_all, h.hB, h.below.trans (hb.mono h.size_le), h.glob.ext hle.ok hh, fun t v hv => (h.svs t v hv).ext hle hh, ⟨h.od.oo, fun n m x y hn hm he => ?_, h.od.ro⟩⟩
  · intro n T cs' hn
    by_cases e : n = s.nx
    · subst e
      rw [look_cons_self] at hn
      injection hn with hn
      injection hn with h1 h2
      subst h1; subst h2
      refine ⟨w.heap.size, us, by simp, h.size_le, fun hk => ?_, heap_alloc_new w _, hr.ext hle.ok hh⟩
      have := h.ok_lt _ hk
      omega
    · rw [look_cons_ne (Ne.symm e)] at hn
      obtain ⟨g, us', hg, hBg, hok, hgg, hr'⟩ := h.mem.bx n T cs' hn
      exact ⟨g, us', hβ n g hg, hBg, hok, (hb.block g (Array.getElem?_eq_some_iff.1 hgg).1).trans hgg, hr'.ext hle.ok hh⟩
  · intro n e sz xs hn
    obtain ⟨v, us', hv, ho, hsz, hr', hok⟩ := h.mem.rw n e sz xs hn
    exact ⟨v, us', hv, ho.kept (row := none) ⟨hb.os, hb.tape, hb.output, hb.size, fun k hk _ => hb.block k hk⟩ (by cases v.ownBlock <;> simp), hsz, hr'.ext hle.ok hh, hok⟩
  · intro n m x y g hn hm hgn hgm
    simp only at hgn hgm
    by_cases e : n = s.nx <;> by_cases e' : m = s.nx
    · rw [e, e']
    · rw [if_pos e] at hgn
      rw [if_neg e'] at hgm
      rw [look_cons_ne (Ne.symm e')] at hm
      injection hgn with hgn
      have := hcells m y g hm hgm
      omega
    · rw [if_neg e] at hgn
      rw [if_pos e'] at hgm
      rw [look_cons_ne (Ne.symm e)] at hn
      injection hgm with hgm
      have := hcells n x g hn hgn
      omega
    · rw [if_neg e] at hgn
      rw [if_neg e'] at hgm
      rw [look_cons_ne (Ne.symm e)] at hn
      rw [look_cons_ne (Ne.symm e')] at hm
      exact h.bb n m x y g hn hm hgn hgm
  · intro n m x y g v hn hm hgn hv hg
    simp only at hgn
    by_cases e : n = s.nx
    · rw [if_pos e] at hgn
      injection hgn with hgn
      have := hrows m y v g hm hv hg
      omega
    · rw [if_neg e] at hgn
      rw [look_cons_ne (Ne.symm e)] at hn
      exact h.br n m x y g v hn hm hgn hv hg
  · intro n hn
    have := h.fresh n (by simp only at hn; omega)
    exact ⟨by simp only at hn ⊢; rw [if_neg (by omega)]; exact this.1, this.2⟩
  · intro b hk
    have := h.ok_lt b hk
    simp
    omega
  · simp only at he
    by_cases e : n = s.nx
    · rw [if_pos e] at he
      injection he with he
      have := h.ob_lt hm
      omega
    · rw [if_neg e] at he
      rw [look_cons_ne (Ne.symm e)] at hn
      exact h.od.bo n m x y hn hm he

/-- A store into a box. -/
theorem Sat.store (h : Sat C nt s B ok0 w0 a w E) {n T g : Nat} {cs cs' : List PV} {us' : List Value} (hn : look s.bx n = some (T, cs)) (hg : E.β n = some g) (hr : RepL w E.ok cs' us') {bx' : List (Nat × (Nat × List PV))}
    (hself : look bx' n = some (T, cs')) (hother : ∀ m, m ≠ n → look bx' m = look s.bx m) :
    Sat C nt { s with bx := bx' } B ok0 w0 a (w.setRow g us'.toArray) E := by
  obtain ⟨g', us, hg', hBg, hok, hgg, hr0⟩ := h.mem.bx n T cs hn
  rw [hg] at hg'
  injection hg' with hg'
  subst hg'
  have hoth : ∀ k, k ≠ g → (w.setRow g us'.toArray).heap[k]? = w.heap[k]? := fun k hk => setRow_other w g k _ hk
  have hh : ∀ b, E.ok b → (w.setRow g us'.toArray).heap[b]? = w.heap[b]? := fun b hk => hoth b (fun e => hok (e ▸ hk))
  have hle : E.Le E := ⟨fun _ h => h, fun _ _ h => h, fun _ _ h => h⟩
  have hsize : (w.setRow g us'.toArray).heap.size = w.heap.size := by simp [World.setRow]
  have look_of : ∀ m x, look bx' m = some x → ∃ y, look s.bx m = some y := by
    intro m x hm
    by_cases e : m = n
    · subst e; exact ⟨_, hn⟩
    · rw [hother m e] at hm; exact ⟨_, hm⟩
  refine ⟨h.defs, h.size, fun t v hv => ⟨(h.fr t v hv).1, (h.fr t v hv).2.ext hle hh⟩, ⟨?_, ?_, obs_ext h.mem.ob hle hh (fun _ _ _ _ _ hn => hn) (fun m o hm x hx => (hoth o.blk (fun e => h.od.bo n m _ o hn hm (by rw [hg, e]))).trans hx)⟩, ?_, ?_, h.rr, h.fresh, fun b hk => by rw [hsize]; exact h.ok_lt b hk, h.ok_from, h.ok_all, h.hB, ?_, h.glob.ext (fun _ h => h) hh, fun t v hv => (h.svs t v hv).ext hle hh, ⟨h.od.oo, fun k m x y hk hm => let ⟨x', hx'⟩ := look_of k x hk; h.od.bo k m x' y hx' hm, h.od.ro⟩⟩
  · intro m T' cs2 hm
    by_cases e : m = n
    · subst e
      rw [hself] at hm
      injection hm with hm
      injection hm with h1 h2
      subst h1; subst h2
      exact ⟨g, us', hg, hBg, hok, setRow_heap w g _ _ T (0, 0) hgg, hr.ext (fun _ h => h) hh⟩
    · rw [hother m e] at hm
      obtain ⟨g2, us2, hg2, hB2, hok2, hgg2, hr2⟩ := h.mem.bx m T' cs2 hm
      have hne : g2 ≠ g := fun e2 => e (h.bb m n _ _ g hm hn (e2 ▸ hg2) hg)
      exact ⟨g2, us2, hg2, hB2, hok2, (hoth g2 hne).trans hgg2, hr2.ext (fun _ h => h) hh⟩
  · intro m e sz xs hm
    obtain ⟨v, us2, hv, ho, hsz, hr2, hok2⟩ := h.mem.rw m e sz xs hm
    have hne := h.br n m _ _ g v hn hm hg hv
    refine ⟨v, us2, hv, ho.kept (row := some g) ⟨rfl, rfl, rfl, by simp [World.setRow], fun k hk hk2 => hoth k (fun e => hk2 (by rw [e]))⟩ (.inr hne), hsz, hr2.ext (fun _ h => h) hh, hok2⟩
  · intro m m' x y k hm hm' hk hk'
    obtain ⟨x', hx'⟩ := look_of m x hm
    obtain ⟨y', hy'⟩ := look_of m' y hm'
    exact h.bb m m' x' y' k hx' hy' hk hk'
  · intro m m' x y k v hm hm' hk hv
    obtain ⟨x', hx'⟩ := look_of m x hm
    exact h.br m m' x' y k v hx' hm' hk hv
  · refine h.below.trans ⟨rfl, rfl, rfl, by simp [World.setRow], fun k hk => hoth k (by omega)⟩

/-- A row is another one now: some block of its own, grown. -/
theorem Sat.rowAt (h : Sat C nt s B ok0 w0 a w E) {N nx' : Nat} (hN : E.ν N = none) (hNx : N < nx') (hsn : s.nx ≤ nx') {e sz : Nat} {ys : List (List PV)} {vs : List Value} {v v' : Value} {rw' : List (Nat × (Nat × Nat × List (List PV)))}
    (hrw' : ∀ m x, look rw' m = some x → look s.rw m = some x ∧ ∀ k, E.ν m = some k → k.ownBlock = none ∨ k.ownBlock ≠ v.ownBlock)
    (hbx : ∀ n x g, look s.bx n = some x → E.β n = some g → v.ownBlock ≠ some g) (hvok : ∀ g, v.ownBlock = some g → ¬ E.ok g) (hvB : ∀ g, v.ownBlock = some g → B ≤ g)
    (hg : w.grownBy w' v.ownBlock) (hown : w'.ownsRow B e sz v' ys.length vs) (hsz : ∀ y ∈ ys, y.length = sz) (hr : RepL w E.ok ys.flatten vs)
    (hat : v'.ownBlock = v.ownBlock ∨ ∃ b, v'.ownBlock = some b ∧ w.heap.size ≤ b) (hvob : ∀ m y, look s.ob m = some y → v.ownBlock ≠ some y.blk) :
    ∃ E', E.Le E' ∧ SRep w' E' (.own N) v' ∧ (∀ b, E.ok b → w'.heap[b]? = w.heap[b]?) ∧ (∀ m, E'.β m = E.β m) ∧ (∀ m, m ≠ N → E'.ν m = E.ν m) ∧ Sat C nt { s with rw := (N, (e, sz, ys)) :: rw', nx := nx' } B ok0 w0 a w' E' := by
  have hν : ∀ n g, E.ν n = some g → (if n = N then some v' else E.ν n) = some g := by
    intro n g hg
    split
    · rename_i e; subst e; rw [hN] at hg; cases hg
    · exact hg
  have hle : E.Le { E with ν := fun n => if n = N then some v' else E.ν n } := ⟨fun _ h => h, fun _ _ h => h, hν⟩
  have hh : ∀ b, E.ok b → w'.heap[b]? = w.heap[b]? := fun b hk => hg.block b (h.ok_lt b hk) (fun e => hvok b e.symm hk)
  have hcells : ∀ n x g, look s.bx n = some x → E.β n = some g → g < w.heap.size := by
    intro n x g hn hg
    obtain ⟨g', us, hg', _, _, hgg, _⟩ := h.mem.bx n x.1 x.2 hn
    rw [hg] at hg'
    injection hg' with hg'
    subst hg'
    exact (Array.getElem?_eq_some_iff.1 hgg).1
  have hrows : ∀ n x k g, look s.rw n = some x → E.ν n = some k → k.ownBlock = some g → g < w.heap.size := by
    intro n x k g hn hv hg
    obtain ⟨v', us, hv', ho, _⟩ := h.mem.rw n x.1 x.2.1 x.2.2 hn
    rw [hv] at hv'
    injection hv' with hv'
    subst hv'
    exact (ho.lt g hg).2
  have hnx : ∀ m x, look rw' m = some x → m ≠ N := by
    intro m x hm e2
    obtain ⟨k, us, hk, _⟩ := h.mem.rw m x.1 x.2.1 x.2.2 (hrw' m x hm).1
    rw [e2, hN] at hk
    cases hk
  -- the new row's block is none of the others'
  have hsep : ∀ m x k g, look rw' m = some x → E.ν m = some k → k.ownBlock = some g → v'.ownBlock ≠ some g := by
    intro m x k g hm hk hkg he
    obtain ⟨hm', hne⟩ := hrw' m x hm
    rcases hat with hat | ⟨b, hb, hle2⟩
    · rw [hat] at he
      rcases hne k hk with h1 | h1
      · rw [h1] at hkg; cases hkg
      · exact h1 (hkg.trans he.symm)
    · rw [hb] at he
      injection he with he
      have := hrows m x k g hm' hk hkg
      omega
  have hsepb : ∀ n x g, look s.bx n = some x → E.β n = some g → v'.ownBlock ≠ some g := by
    intro n x g hn hgn he
    rcases hat with hat | ⟨b, hb, hle2⟩
    · rw [hat] at he
      exact hbx n x g hn hgn he
    · rw [hb] at he
      injection he with he
      have := hcells n x g hn hgn
      omega
  refine ⟨_, hle, by simp [SRep], hh, fun _ => rfl, fun m hm => by simp [hm], h.defs, h.size, fun t x hx => ⟨(h.fr t x hx).1, (h.fr t x hx).2.ext hle hh⟩, ⟨?_, ?_, obs_ext h.mem.ob hle hh (fun _ _ _ _ _ hn => hn) (fun m o hm x hx => (hg.block _ (Array.getElem?_eq_some_iff.1 hx).1 (fun e => hvob m o hm e.symm)).trans hx)⟩, h.bb, ?_, ?_, ?_, fun b hk => Nat.lt_of_lt_of_le (h.ok_lt b hk) hg.size, h.ok_from, h.ok_all, h.hB, ?_, h.glob.ext hle.ok hh, fun t v hv => (h.svs t v hv).ext hle hh, ⟨h.od.oo, h.od.bo, fun n m x y k hn hm hk => ?_⟩⟩
  · intro n T cs hn
    obtain ⟨g, us, hgn, hBg, hok, hgg, hr'⟩ := h.mem.bx n T cs hn
    exact ⟨g, us, hgn, hBg, hok, (hg.block g (Array.getElem?_eq_some_iff.1 hgg).1 (fun e => hbx n _ g hn hgn e.symm)).trans hgg, hr'.ext hle.ok hh⟩
  · intro m e2 sz2 xs hm
    by_cases e3 : m = N
    · subst e3
      rw [look_cons_self] at hm
      injection hm with hm
      injection hm with h1 h2
      injection h2 with h2 h3
      subst h1; subst h2; subst h3
      refine ⟨v', vs, by simp, hown, hsz, hr.ext hle.ok hh, fun g hg2 hk => ?_⟩
      rcases hat with hat | ⟨b, hb, hle2⟩
      · rw [hat] at hg2; exact hvok g hg2 hk
      · rw [hb] at hg2
        injection hg2 with hg2
        have := h.ok_lt g hk
        omega
    · rw [look_cons_ne (Ne.symm e3)] at hm
      obtain ⟨hm', hne⟩ := hrw' m _ hm
      obtain ⟨k, us, hk, ho, hsz2, hr2, hok2⟩ := h.mem.rw m e2 sz2 xs hm'
      exact ⟨k, us, hν m k hk, ho.kept hg (hne k hk), hsz2, hr2.ext hle.ok hh, hok2⟩
  · intro n m x y g k hn hm hgn hk
    simp only at hk
    by_cases e2 : m = N
    · rw [if_pos e2] at hk
      injection hk with hk
      subst hk
      exact hsepb n x g hn hgn
    · rw [if_neg e2] at hk
      rw [look_cons_ne (Ne.symm e2)] at hm
      exact h.br n m x y g k hn (hrw' m y hm).1 hgn hk
  · intro n m x y g k k' hn hm hk hk' hkg hkg'
    simp only at hk hk'
    by_cases e2 : n = N <;> by_cases e3 : m = N
    · rw [e2, e3]
    · rw [if_pos e2] at hk
      rw [if_neg e3] at hk'
      rw [look_cons_ne (Ne.symm e3)] at hm
      injection hk with hk
      subst hk
      exact absurd hkg (hsep m y k' g hm hk' hkg')
    · rw [if_neg e2] at hk
      rw [if_pos e3] at hk'
      rw [look_cons_ne (Ne.symm e2)] at hn
      injection hk' with hk'
      subst hk'
      exact absurd hkg' (hsep n x k g hn hk hkg)
    · rw [if_neg e2] at hk
      rw [if_neg e3] at hk'
      rw [look_cons_ne (Ne.symm e2)] at hn
      rw [look_cons_ne (Ne.symm e3)] at hm
      exact h.rr n m x y g k k' (hrw' n x hn).1 (hrw' m y hm).1 hk hk' hkg hkg'
  · intro n hn
    have := h.fresh n (Nat.le_trans hsn hn)
    exact ⟨this.1, by simp only at hn ⊢; rw [if_neg (by omega)]; exact this.2⟩
  · exact h.below.grown hg h.size_le (fun k hk => hvB k hk)
  · simp only at hk
    by_cases e2 : n = N
    · rw [if_pos e2] at hk
      injection hk with hk
      subst hk
      rcases hat with hat | ⟨b, hb, hle2⟩
      · rw [hat]; exact hvob m y hm
      · rw [hb]
        intro e3
        injection e3 with e3
        have := h.ob_lt hm
        omega
    · rw [if_neg e2] at hk
      rw [look_cons_ne (Ne.symm e2)] at hn
      exact h.od.ro n m x y k (hrw' n x hn).1 hm hk

theorem Sat.row (h : Sat C nt s B ok0 w0 a w E) {e sz : Nat} {ys : List (List PV)} {vs : List Value} {v v' : Value} {rw' : List (Nat × (Nat × Nat × List (List PV)))}
    (hrw' : ∀ m x, look rw' m = some x → look s.rw m = some x ∧ ∀ k, E.ν m = some k → k.ownBlock = none ∨ k.ownBlock ≠ v.ownBlock)
    (hbx : ∀ n x g, look s.bx n = some x → E.β n = some g → v.ownBlock ≠ some g) (hvok : ∀ g, v.ownBlock = some g → ¬ E.ok g) (hvB : ∀ g, v.ownBlock = some g → B ≤ g)
    (hg : w.grownBy w' v.ownBlock) (hown : w'.ownsRow B e sz v' ys.length vs) (hsz : ∀ y ∈ ys, y.length = sz) (hr : RepL w E.ok ys.flatten vs)
    (hat : v'.ownBlock = v.ownBlock ∨ ∃ b, v'.ownBlock = some b ∧ w.heap.size ≤ b) (hvob : ∀ m y, look s.ob m = some y → v.ownBlock ≠ some y.blk) :
    ∃ E', E.Le E' ∧ SRep w' E' (.own s.nx) v' ∧ (∀ b, E.ok b → w'.heap[b]? = w.heap[b]?) ∧ Sat C nt { s with rw := (s.nx, (e, sz, ys)) :: rw', nx := s.nx + 1 } B ok0 w0 a w' E' := by
  obtain ⟨E', h1, h2, h3, _, _, h6⟩ := h.rowAt (h.fresh s.nx (Nat.le_refl _)).2 (Nat.lt_succ_self _) (Nat.le_succ _) hrw' hbx hvok hvB hg hown hsz hr hat hvob
  exact ⟨E', h1, h2, h3, h6⟩

/-- A new object that is no cells. -/
theorem Sat.newOb (h : Sat C nt s B ok0 w0 a w E) {x : Ob} {o : Obj} (hb0 : x.blk = w.heap.size) (ho : x.isHold = false) (hx : x.Is w E o) :
    Sat C nt { s with ob := (s.nx, x) :: s.ob, nx := s.nx + 1 } B ok0 w0 a (w.alloc o) E := by
  have hb : Below w.heap.size w (w.alloc o) := (Below.refl _ _).alloc (Nat.le_refl _) _
  have hle : E.Le E := ⟨fun _ h => h, fun _ _ h => h, fun _ _ h => h⟩
  have hh : ∀ b, E.ok b → (w.alloc o).heap[b]? = w.heap[b]? := fun b hk => hb.block b (h.ok_lt b hk)
  have hobs := obs_ext h.mem.ob hle hh (fun _ _ _ _ _ hn => hn) (fun _ _ _ x hx => (hb.block _ (Array.getElem?_eq_some_iff.1 hx).1).trans hx)
  have hlt : ∀ n y, look s.ob n = some y → y.blk < w.heap.size := fun n y hn => by
    obtain ⟨_, _, z, hz, _⟩ := h.mem.ob n y hn
    exact (Array.getElem?_eq_some_iff.1 hz).1
  refine ⟨h.defs, h.size, fun t v hv => ⟨(h.fr t v hv).1, (h.fr t v hv).2.ext hle hh⟩, ⟨?_, ?_, ?_⟩, h.bb, h.br, h.rr, fun n hn => h.fresh n (by simp only at hn; omega), fun b hk => Nat.lt_of_lt_of_le (h.ok_lt b hk) hb.size, h.ok_from, h.ok_all, h.hB, h.below.trans (hb.mono h.size_le), h.glob.ext hle.ok hh, fun t v hv => (h.svs t v hv).ext hle hh, ⟨?_, ?_, ?_⟩⟩
  · intro n T cs hn
    obtain ⟨g, us, hg, hBg, hok, hgg, hr⟩ := h.mem.bx n T cs hn
    exact ⟨g, us, hg, hBg, hok, (hb.block g (Array.getElem?_eq_some_iff.1 hgg).1).trans hgg, hr.ext hle.ok hh⟩
  · intro n e sz xs hn
    obtain ⟨v, us, hv, hw, hsz, hr, hok⟩ := h.mem.rw n e sz xs hn
    exact ⟨v, us, hv, hw.kept (row := none) ⟨hb.os, hb.tape, hb.output, hb.size, fun k hk _ => hb.block k hk⟩ (by cases v.ownBlock <;> simp), hsz, hr.ext hle.ok hh, hok⟩
  · intro n y hn
    by_cases e : s.nx = n
    · subst e
      rw [look_cons_self] at hn
      injection hn with hn
      subst hn
      rw [hb0]
      exact ⟨h.size_le, fun hk => Nat.lt_irrefl _ (h.ok_lt _ hk), o, World.alloc_heap_new w o, fun hq => absurd hq (by rw [ho]; simp), hx.ext hle hh⟩
    · rw [look_cons_ne e] at hn
      exact hobs n y hn
  · intro n m y z hn hm he
    by_cases e : s.nx = n <;> by_cases e' : s.nx = m
    · rw [← e, ← e']
    · subst e
      rw [look_cons_self] at hn
      injection hn with hn
      subst hn
      rw [look_cons_ne e'] at hm
      have := hlt m z hm
      omega
    · subst e'
      rw [look_cons_self] at hm
      injection hm with hm
      subst hm
      rw [look_cons_ne e] at hn
      have := hlt n y hn
      omega
    · rw [look_cons_ne e] at hn
      rw [look_cons_ne e'] at hm
      exact h.od.oo n m y z hn hm he
  · intro n m y z hn hm he
    by_cases e' : s.nx = m
    · subst e'
      rw [look_cons_self] at hm
      injection hm with hm
      subst hm
      have := h.bx_lt hn he
      omega
    · rw [look_cons_ne e'] at hm
      exact h.od.bo n m y z hn hm he
  · intro n m y z v hn hm hv he
    by_cases e' : s.nx = m
    · subst e'
      rw [look_cons_self] at hm
      injection hm with hm
      subst hm
      have := h.rw_lt hn hv he
      omega
    · rw [look_cons_ne e'] at hm
      exact h.od.ro n m y z v hn hm hv he
/-- An object that is no cells turns into another such. -/
theorem Sat.setOb (h : Sat C nt s B ok0 w0 a w E) {n : Nat} {x : Ob} {o : Obj} (hn : look s.ob n = some x) {ob' : List (Nat × Ob)} (ho : ∀ y, look ob' n = some y → y.isHold = x.isHold)
    (hself : ∀ y, look ob' n = some y → y.blk = x.blk ∧ y.Is w E o) (hother : ∀ m, m ≠ n → ∀ y, look ob' m = some y → look s.ob m = some y) :
    Sat C nt { s with ob := ob' } B ok0 w0 a (w.putObj x.blk o) E := by
  obtain ⟨hB1, hok1, z, hz, hzc, _⟩ := h.mem.ob n x hn
  have hlt := (Array.getElem?_eq_some_iff.1 hz).1
  have hle : E.Le E := ⟨fun _ h => h, fun _ _ h => h, fun _ _ h => h⟩
  have hoth : ∀ k, k ≠ x.blk → (w.putObj x.blk o).heap[k]? = w.heap[k]? := fun k hk => World.putObj_heap_other hk
  have hh : ∀ b, E.ok b → (w.putObj x.blk o).heap[b]? = w.heap[b]? := fun b hk => hoth b (fun e => hok1 (e ▸ hk))
  refine ⟨h.defs, h.size, fun t v hv => ⟨(h.fr t v hv).1, (h.fr t v hv).2.ext hle hh⟩, ⟨?_, ?_, ?_⟩, h.bb, h.br, h.rr, h.fresh, fun b hk => by rw [World.putObj_size]; exact h.ok_lt b hk, h.ok_from, h.ok_all, h.hB, ?_, h.glob.ext hle.ok hh, fun t v hv => (h.svs t v hv).ext hle hh, ?_⟩
  · intro m T cs hm
    obtain ⟨g, us, hg, hBg, hok, hgg, hr⟩ := h.mem.bx m T cs hm
    exact ⟨g, us, hg, hBg, hok, (hoth g (fun e => h.od.bo m n _ x hm hn (e ▸ hg))).trans hgg, hr.ext hle.ok hh⟩
  · intro m e sz xs hm
    obtain ⟨v, us, hv, hw, hsz, hr, hok⟩ := h.mem.rw m e sz xs hm
    refine ⟨v, us, hv, hw.kept (row := some x.blk) ⟨rfl, rfl, rfl, by simp, fun k hk hk2 => hoth k (fun e => hk2 (by rw [e]))⟩ (.inr (h.od.ro m n _ x v hm hn hv)), hsz, hr.ext hle.ok hh, hok⟩
  · intro m y hm
    by_cases e : m = n
    · subst e
      obtain ⟨hb0, hx⟩ := hself y hm
      rw [hb0]
      exact ⟨hB1, hok1, o, World.putObj_heap_same hlt, fun hq => by rw [ho y hm] at hq; exact hzc hq, hx.ext hle hh⟩
    · have hm' := hother m e y hm
      obtain ⟨h1, h2, u, h3, h4, h5⟩ := h.mem.ob m y hm'
      exact ⟨h1, h2, u, (hoth _ (fun e2 => e (h.od.oo m n y x hm' hn e2))).trans h3, h4, h5.ext hle hh⟩
  · exact h.below.trans ⟨rfl, rfl, rfl, by simp, fun k hk => hoth k (by omega)⟩
  · have key : ∀ m y, look ob' m = some y → ∃ y', look s.ob m = some y' ∧ y'.blk = y.blk := fun m y hm => by
      by_cases e : m = n
      · subst e
        exact ⟨x, hn, (hself y hm).1.symm⟩
      · exact ⟨y, hother m e y hm, rfl⟩
    refine ⟨fun i j y z' hi hj he => ?_, fun i j y z' hi hj he => ?_, fun i j y z' v hi hj hv he => ?_⟩
    · obtain ⟨y1, h1, e1⟩ := key i y hi
      obtain ⟨y2, h2, e2⟩ := key j z' hj
      exact h.od.oo i j y1 y2 h1 h2 (by rw [e1, e2, he])
    · obtain ⟨y2, h2, e2⟩ := key j z' hj
      exact h.od.bo i j y y2 hi h2 (by rw [e2, he])
    · obtain ⟨y2, h2, e2⟩ := key j z' hj
      exact h.od.ro i j y y2 v hi h2 hv (by rw [e2, he])
/-- A box comes to be a variable that may hold a row. -/
theorem Sat.toHold (h : Sat C nt s B ok0 w0 a w E) {n T g : Nat} {c : PV} (hn : look s.bx n = some (T, [c])) (hg : E.β n = some g) {bx' : List (Nat × (Nat × List PV))} (hbx : ∀ m x, look bx' m = some x → look s.bx m = some x ∧ m ≠ n) :
    Sat C nt { s with bx := bx', ob := (n, .hold g T (.p c)) :: s.ob } B ok0 w0 a w E := by
  obtain ⟨g', us, hg', hBg, hok, hgg, hr⟩ := h.mem.bx n T [c] hn
  rw [hg] at hg'
  injection hg' with hg'
  subst hg'
  obtain ⟨u, us', rfl, hu, hr'⟩ := hr.uncons
  obtain rfl := hr'.unnil
  refine ⟨h.defs, h.size, h.fr, ⟨fun m T cs hm => h.mem.bx m T cs (hbx m _ hm).1, h.mem.rw, fun m y hm => ?_⟩, fun i j x y k hi hj => h.bb i j x y k (hbx i x hi).1 (hbx j y hj).1, fun i j x y k v hi => h.br i j x y k v (hbx i x hi).1, h.rr, h.fresh, h.ok_lt, h.ok_from, h.ok_all, h.hB, h.below, h.glob, h.svs, ⟨fun i j x y hi hj he => ?_, fun i j x y hi hj he => ?_, fun i j x y v hi hj hv he => ?_⟩⟩
  · by_cases e : n = m
    · subst e
      rw [look_cons_self] at hm
      injection hm with hm
      subst hm
      exact ⟨hBg, hok, _, hgg, fun _ => hg, u, hu, rfl⟩
    · rw [look_cons_ne e] at hm
      exact h.mem.ob m y hm
  · by_cases e : n = i <;> by_cases e' : n = j
    · rw [← e, ← e']
    · subst e
      rw [look_cons_self] at hi
      injection hi with hi
      subst hi
      rw [look_cons_ne e'] at hj
      exact absurd (hg.trans (congrArg some he)) (h.od.bo n j _ y hn hj)
    · subst e'
      rw [look_cons_self] at hj
      injection hj with hj
      subst hj
      rw [look_cons_ne e] at hi
      exact absurd (hg.trans (congrArg some he.symm)) (h.od.bo n i _ x hn hi)
    · rw [look_cons_ne e] at hi
      rw [look_cons_ne e'] at hj
      exact h.od.oo i j x y hi hj he
  · obtain ⟨hi', hne⟩ := hbx i x hi
    by_cases e' : n = j
    · subst e'
      rw [look_cons_self] at hj
      injection hj with hj
      subst hj
      exact hne (h.bb i n x _ g hi' hn he hg)
    · rw [look_cons_ne e'] at hj
      exact h.od.bo i j x y hi' hj he
  · by_cases e' : n = j
    · subst e'
      rw [look_cons_self] at hj
      injection hj with hj
      subst hj
      exact h.br n i _ x g v hn hi hg hv he
    · rw [look_cons_ne e'] at hj
      exact h.od.ro i j x y v hi hj hv he
/-- A box comes to be a variable whose cells may hold rows. -/
theorem Sat.toHst (h : Sat C nt s B ok0 w0 a w E) {n T g nc : Nat} {cs : List PV} {sn : List (Nat × SV)} (hn : look s.bx n = some (T, cs)) (hnc : cs.length = nc) (hsn : ∀ t v, look sn t = some v → ∃ c, cs[t]? = some c ∧ v = .p c) (hg : E.β n = some g) {bx' : List (Nat × (Nat × List PV))} (hbx : ∀ m x, look bx' m = some x → look s.bx m = some x ∧ m ≠ n) :
    Sat C nt { s with bx := bx', ob := (n, .hst g T nc sn) :: s.ob } B ok0 w0 a w E := by
  obtain ⟨g', us, hg', hBg, hok, hgg, hr⟩ := h.mem.bx n T cs hn
  rw [hg] at hg'
  injection hg' with hg'
  subst hg'
  refine ⟨h.defs, h.size, h.fr, ⟨fun m T cs hm => h.mem.bx m T cs (hbx m _ hm).1, h.mem.rw, fun m y hm => ?_⟩, fun i j x y k hi hj => h.bb i j x y k (hbx i x hi).1 (hbx j y hj).1, fun i j x y k v hi => h.br i j x y k v (hbx i x hi).1, h.rr, h.fresh, h.ok_lt, h.ok_from, h.ok_all, h.hB, h.below, h.glob, h.svs, ⟨fun i j x y hi hj he => ?_, fun i j x y hi hj he => ?_, fun i j x y v hi hj hv he => ?_⟩⟩
  · by_cases e : n = m
    · subst e
      rw [look_cons_self] at hm
      injection hm with hm
      subst hm
      refine ⟨hBg, hok, _, hgg, fun _ => hg, us, by rw [hr.1]; exact hnc, rfl, fun t v hv => ?_⟩
      obtain ⟨c, hc, rfl⟩ := hsn t v hv
      have ht : t < cs.length := (List.getElem?_eq_some_iff.1 hc).1
      have ht' : t < us.length := by rw [hr.1]; exact ht
      refine ⟨by omega, ?_⟩
      have hget : us.toArray.getD t undef = us[t] := by simp [Array.getD, ht']
      rw [hget]
      exact hr.2 t c us[t] hc (List.getElem?_eq_getElem ht')
    · rw [look_cons_ne e] at hm
      exact h.mem.ob m y hm
  · by_cases e : n = i <;> by_cases e' : n = j
    · rw [← e, ← e']
    · subst e
      rw [look_cons_self] at hi
      injection hi with hi
      subst hi
      rw [look_cons_ne e'] at hj
      exact absurd (hg.trans (congrArg some he)) (h.od.bo n j _ y hn hj)
    · subst e'
      rw [look_cons_self] at hj
      injection hj with hj
      subst hj
      rw [look_cons_ne e] at hi
      exact absurd (hg.trans (congrArg some he.symm)) (h.od.bo n i _ x hn hi)
    · rw [look_cons_ne e] at hi
      rw [look_cons_ne e'] at hj
      exact h.od.oo i j x y hi hj he
  · obtain ⟨hi', hne⟩ := hbx i x hi
    by_cases e' : n = j
    · subst e'
      rw [look_cons_self] at hj
      injection hj with hj
      subst hj
      exact hne (h.bb i n x _ g hi' hn he hg)
    · rw [look_cons_ne e'] at hj
      exact h.od.bo i j x y hi' hj he
  · by_cases e' : n = j
    · subst e'
      rw [look_cons_self] at hj
      injection hj with hj
      subst hj
      exact h.br n i _ x g v hn hi hg hv he
    · rw [look_cons_ne e'] at hj
      exact h.od.ro i j x y v hi hj hv he
end
end Go.Proofs.Ab
end
section
/- A box or a row is written no more; each operation's step; a region in the text's order. -/
set_option linter.unusedVariables false
set_option linter.unusedSimpArgs false
namespace Go.Proofs.Ab
open Go Go.RowKit

section
variable {C : Cx} {nt : Nat} {s : AS} {B : Nat} {ok0 : Base} {w0 : World} {a : Act} {w w' : World} {E : Env}

/-- All entries of a name are struck. -/
def strikeK {α : Type} : List (Nat × α) → Nat → (List (Nat × α) → Prop) → Prop
  | [], _, k => k []
  | (m, y) :: r, n, k => bif Nat.beq m n then strikeK r n k else strikeK r n fun l => k ((m, y) :: l)
theorem strikeK_sound {α : Type} : ∀ {l : List (Nat × α)} {n : Nat} {k : List (Nat × α) → Prop}, strikeK l n k → ∃ l', k l' ∧ ∀ m x, look l' m = some x → look l m = some x ∧ m ≠ n
  | [], n, k, h => ⟨[], h, fun m x hm => by cases hm⟩
  | (m, y) :: r, n, k, h => by
    unfold strikeK at h
    cases hb : Nat.beq m n with
    | true =>
      rw [hb] at h
      obtain rfl := Nat.eq_of_beq_eq_true hb
      obtain ⟨l', hk, hl⟩ := strikeK_sound (l := r) (n := m) (k := k) h
      refine ⟨l', hk, fun i x hx => ?_⟩
      obtain ⟨h1, h2⟩ := hl i x hx
      exact ⟨by rw [look_cons_ne (Ne.symm h2)]; exact h1, h2⟩
    | false =>
      rw [hb] at h
      obtain ⟨l', hk, hl⟩ := strikeK_sound (l := r) (n := n) (k := fun l => k ((m, y) :: l)) h
      refine ⟨_, hk, fun i x hx => ?_⟩
      by_cases e : m = i
      · subst e
        rw [look_cons_self] at hx ⊢
        refine ⟨hx, fun e => ?_⟩
        rw [e, Nat.beq_refl] at hb
        cases hb
      · rw [look_cons_ne e] at hx ⊢
        exact hl i x hx

/-- Slots that point into box n read its cells, which stay. -/
def frzK (n : Nat) (cs : List PV) : List (Nat × SV) → (List (Nat × SV) → Prop) → Prop
  | [], k => k []
  | (t, x) :: r, k => match x with
    | .box m off => bif Nat.beq m n then dropK cs off fun l => frzK n cs r fun r' => k ((t, .p (.ref l)) :: r') else frzK n cs r fun r' => k ((t, .box m off) :: r')
    | x => frzK n cs r fun r' => k ((t, x) :: r')
theorem frzK_sound {n : Nat} {cs : List PV} : ∀ {l : List (Nat × SV)} {k : List (Nat × SV) → Prop}, frzK n cs l k → ∃ l', k l' ∧ ∀ t x, look l' t = some x → look l t = some x ∨ ∃ off, look l t = some (.box n off) ∧ off ≤ cs.length ∧ x = .p (.ref (cs.drop off))
  | [], k, h => ⟨[], h, fun t x hx => by cases hx⟩
  | (t, x) :: r, k, h => by
    have step : ∀ (y : SV), (frzK n cs r fun r' => k ((t, y) :: r')) → (y = x ∨ ∃ off, x = .box n off ∧ off ≤ cs.length ∧ y = .p (.ref (cs.drop off))) →
        ∃ l', k l' ∧ ∀ i z, look l' i = some z → look ((t, x) :: r) i = some z ∨ ∃ off, look ((t, x) :: r) i = some (.box n off) ∧ off ≤ cs.length ∧ z = .p (.ref (cs.drop off)) := by
      intro y hy hyx
      obtain ⟨l', hk, hl⟩ := frzK_sound hy
      refine ⟨_, hk, fun i z hz => ?_⟩
      by_cases e : t = i
      · subst e
        rw [look_cons_self] at hz ⊢
        injection hz with hz
        subst hz
        rcases hyx with rfl | ⟨off, rfl, ho, rfl⟩
        · exact .inl rfl
        · exact .inr ⟨off, rfl, ho, rfl⟩
      · rw [look_cons_ne e] at hz ⊢
        exact hl i z hz
    cases x with
    | box m off =>
      unfold frzK at h
      simp only at h
      cases hb : Nat.beq m n with
      | true =>
        rw [hb] at h
        obtain rfl := Nat.eq_of_beq_eq_true hb
        obtain ⟨ho, h⟩ := dropK_sound h
        exact step _ h (.inr ⟨off, rfl, ho, rfl⟩)
      | false => rw [hb] at h; exact step _ h (.inl rfl)
    | p x => exact step _ h (.inl rfl)
    | own n => exact step _ h (.inl rfl)
    | rowp n off => exact step _ h (.inl rfl)
    | clo _ _ => exact step _ h (.inl rfl)
    | bnd _ _ => exact step _ h (.inl rfl)
def freezeK (s : AS) (n : Nat) (K : AS → Prop) : Prop :=
  lookK s.bx n fun x => frzK n x.2 s.fr fun fr => strikeK s.bx n fun bx => setFB s fr bx K
theorem freezeK_sound {n : Nat} {K : AS → Prop} (hp : freezeK s n K) : ∃ s', K s' ∧ ∀ {B : Nat} {ok0 : Base} {w0 : World} {a : Act} {w : World} {E : Env}, Sat C nt s B ok0 w0 a w E → ∃ E', Sat C nt s' B ok0 w0 a w E' := by
  obtain ⟨⟨T, cs⟩, hn, hp⟩ := lookK_sound hp
  obtain ⟨fr, hp, hfr⟩ := frzK_sound hp
  obtain ⟨bx, hk, hbx⟩ := strikeK_sound hp
  rw [setFB_eq] at hk
  refine ⟨_, hk, fun {B ok0 w0 a w E} h => ?_⟩
  obtain ⟨g, us, hg, hBg, hok, hgg, hr⟩ := h.mem.bx n T cs hn
  have hlt : g < w.heap.size := (Array.getElem?_eq_some_iff.1 hgg).1
  have hle : E.Le { E with ok := fun b => E.ok b ∨ b = g } := ⟨fun b h => .inl h, fun _ _ h => h, fun _ _ h => h⟩
  have hh : ∀ b, E.ok b → w.heap[b]? = w.heap[b]? := fun _ _ => rfl
  refine ⟨{ E with ok := fun b => E.ok b ∨ b = g }, h.defs, h.size, fun t x hx => ?_, ⟨?_, ?_, obs_ext h.mem.ob hle hh (fun m o hm x hx hno hk => hk.elim hno (fun e => h.od.bo n m _ o hn hm (by rw [hg, e]))) (fun _ _ _ x hx => hx)⟩, fun n m x y g hn hm => h.bb n m x y g (hbx n x hn).1 (hbx m y hm).1, fun n m x y g v hn => h.br n m x y g v (hbx n x hn).1, h.rr, h.fresh, ?_, ?_, fun b hb => .inl (h.ok_all b hb), h.hB, h.below, h.glob.ext hle.ok hh, fun t v hv => (h.svs t v hv).ext hle hh, ⟨h.od.oo, fun k m x y hk hm => h.od.bo k m x y (hbx k x hk).1 hm, h.od.ro⟩⟩
  · rcases hfr t x hx with h1 | ⟨off, h1, ho, rfl⟩
    · exact ⟨(h.fr t x h1).1, (h.fr t x h1).2.ext hle hh⟩
    · obtain ⟨h2, g', hg', he⟩ := h.fr t _ h1
      rw [hg] at hg'
      injection hg' with hg'
      subst hg'
      refine ⟨h2, ?_⟩
      rw [he]
      have hr' := (hr.ext (w' := w) hle.ok hh).drop off
      refine .ref _ (us.drop off) g off (.inr rfl) hr'.1 hr'.2 (fun j u hu => ?_)
      rw [cell_of_row w g (off + j) us.toArray T (0, 0) hgg]
      simpa using hu
  · intro m T' cs' hm
    obtain ⟨hm', hne⟩ := hbx m _ hm
    obtain ⟨g', us', hg', hB', hok', hgg', hr'⟩ := h.mem.bx m T' cs' hm'
    refine ⟨g', us', hg', hB', fun hk => ?_, hgg', hr'.ext hle.ok hh⟩
    rcases hk with hk | hk
    · exact hok' hk
    · exact hne (h.bb m n _ _ g hm' hn (hk ▸ hg') hg)
  · intro m e sz xs hm
    obtain ⟨v, us', hv, ho, hsz, hr', hok'⟩ := h.mem.rw m e sz xs hm
    refine ⟨v, us', hv, ho, hsz, hr'.ext hle.ok hh, fun k hk hk2 => ?_⟩
    rcases hk2 with hk2 | hk2
    · exact hok' k hk hk2
    · exact h.br n m _ _ g v hn hm hg hv (hk2 ▸ hk)
  · intro b hk
    rcases hk with hk | rfl
    · exact h.ok_lt b hk
    · exact hlt
  · intro b hk
    rcases hk with hk | rfl
    · exact h.ok_from b hk
    · exact .inr hBg

/-- Slots that hold row n read it, and it stays. -/
def slK (n sz : Nat) (xs : List (List PV)) : List (Nat × SV) → (List (Nat × SV) → Prop) → Prop
  | [], k => k []
  | (t, x) :: r, k => match x with
    | .own m => bif Nat.beq m n then slK n sz xs r fun r' => k ((t, .p (.seq sz xs)) :: r') else slK n sz xs r fun r' => k ((t, .own m) :: r')
    | x => slK n sz xs r fun r' => k ((t, x) :: r')
theorem slK_sound {n sz : Nat} {xs : List (List PV)} : ∀ {l : List (Nat × SV)} {k : List (Nat × SV) → Prop}, slK n sz xs l k → ∃ l', k l' ∧ ∀ t x, look l' t = some x → look l t = some x ∨ look l t = some (.own n) ∧ x = .p (.seq sz xs)
  | [], k, h => ⟨[], h, fun t x hx => by cases hx⟩
  | (t, x) :: r, k, h => by
    have step : ∀ (y : SV), (slK n sz xs r fun r' => k ((t, y) :: r')) → (y = x ∨ x = .own n ∧ y = .p (.seq sz xs)) →
        ∃ l', k l' ∧ ∀ i z, look l' i = some z → look ((t, x) :: r) i = some z ∨ look ((t, x) :: r) i = some (.own n) ∧ z = .p (.seq sz xs) := by
      intro y hy hyx
      obtain ⟨l', hk, hl⟩ := slK_sound hy
      refine ⟨_, hk, fun i z hz => ?_⟩
      by_cases e : t = i
      · subst e
        rw [look_cons_self] at hz ⊢
        injection hz with hz
        subst hz
        rcases hyx with rfl | ⟨rfl, rfl⟩
        · exact .inl rfl
        · exact .inr ⟨rfl, rfl⟩
      · rw [look_cons_ne e] at hz ⊢
        exact hl i z hz
    cases x with
    | own m =>
      unfold slK at h
      simp only at h
      cases hb : Nat.beq m n with
      | true =>
        rw [hb] at h
        obtain rfl := Nat.eq_of_beq_eq_true hb
        exact step _ h (.inr ⟨rfl, rfl⟩)
      | false => rw [hb] at h; exact step _ h (.inl rfl)
    | p x => exact step _ h (.inl rfl)
    | box n off => exact step _ h (.inl rfl)
    | rowp n off => exact step _ h (.inl rfl)
    | clo _ _ => exact step _ h (.inl rfl)
    | bnd _ _ => exact step _ h (.inl rfl)
/-- .. and variables that hold it. -/
def slObK (n sz : Nat) (xs : List (List PV)) : List (Nat × Ob) → (List (Nat × Ob) → Prop) → Prop
  | [], k => k []
  | (t, x) :: r, k => match x with
    | .hold g T (.own m) => bif Nat.beq m n then slObK n sz xs r fun r' => k ((t, .hold g T (.p (.seq sz xs))) :: r') else slObK n sz xs r fun r' => k ((t, .hold g T (.own m)) :: r')
    | .hst g T nc sn => slK n sz xs sn fun sn' => slObK n sz xs r fun r' => k ((t, .hst g T nc sn') :: r')
    | x => slObK n sz xs r fun r' => k ((t, x) :: r')
/-- What such a variable was before. -/
def SlWas (n sz : Nat) (xs : List (List PV)) (x y : Ob) : Prop := x = y ∨ (∃ g T, y = .hold g T (.own n) ∧ x = .hold g T (.p (.seq sz xs))) ∨ ∃ g T nc sn sn', y = .hst g T nc sn ∧ x = .hst g T nc sn' ∧ ∀ t x, look sn' t = some x → look sn t = some x ∨ look sn t = some (.own n) ∧ x = .p (.seq sz xs)
theorem slObK_sound {n sz : Nat} {xs : List (List PV)} : ∀ {l : List (Nat × Ob)} {k : List (Nat × Ob) → Prop}, slObK n sz xs l k → ∃ l', k l' ∧ ∀ t x, look l' t = some x → ∃ y, look l t = some y ∧ SlWas n sz xs x y
  | [], k, h => ⟨[], h, fun t x hx => by cases hx⟩
  | (t, x) :: r, k, h => by
    have step : ∀ (y : Ob), (slObK n sz xs r fun r' => k ((t, y) :: r')) → SlWas n sz xs y x →
        ∃ l', k l' ∧ ∀ i z, look l' i = some z → ∃ y, look ((t, x) :: r) i = some y ∧ SlWas n sz xs z y := by
      intro y hy hyx
      obtain ⟨l', hk, hl⟩ := slObK_sound hy
      refine ⟨_, hk, fun i z hz => ?_⟩
      by_cases e : t = i
      · subst e
        rw [look_cons_self] at hz ⊢
        injection hz with hz
        subst hz
        exact ⟨x, rfl, hyx⟩
      · rw [look_cons_ne e] at hz ⊢
        exact hl i z hz
    unfold slObK at h
    split at h
    · rename_i g T m
      cases hb : Nat.beq m n with
      | true =>
        rw [hb] at h
        obtain rfl := Nat.eq_of_beq_eq_true hb
        exact step _ h (.inr (.inl ⟨g, T, rfl, rfl⟩))
      | false => rw [hb] at h; exact step _ h (.inl rfl)
    · rename_i g T nc sn
      obtain ⟨sn', h, hs⟩ := slK_sound h
      exact step _ h (.inr (.inr ⟨g, T, nc, sn, sn', rfl, rfl, hs⟩))
    · exact step _ h (.inl rfl)
def setFRO (s : AS) (fr : List (Nat × SV)) (rw : List (Nat × (Nat × Nat × List (List PV)))) (ob : List (Nat × Ob)) (K : AS → Prop) : Prop := match s with | ⟨_, b, _, n, v, _, d⟩ => K ⟨fr, b, rw, n, v, ob, d⟩
theorem setFRO_eq {s : AS} {fr : List (Nat × SV)} {rw : List (Nat × (Nat × Nat × List (List PV)))} {ob : List (Nat × Ob)} {K : AS → Prop} : setFRO s fr rw ob K = K { s with fr := fr, rw := rw, ob := ob } := rfl
def sealK (s : AS) (n : Nat) (K : AS → Prop) : Prop :=
  lookK s.rw n fun x => slK n x.2.1 x.2.2 s.fr fun fr => slObK n x.2.1 x.2.2 s.ob fun ob => strikeK s.rw n fun rw => setFRO s fr rw ob K
theorem sealK_sound {n : Nat} {K : AS → Prop} (hp : sealK s n K) : ∃ s', K s' ∧ ∀ {B : Nat} {ok0 : Base} {w0 : World} {a : Act} {w : World} {E : Env}, Sat C nt s B ok0 w0 a w E → ∃ E', Sat C nt s' B ok0 w0 a w E' := by
  obtain ⟨⟨e, sz, xs⟩, hn, hp⟩ := lookK_sound hp
  obtain ⟨fr, hp, hfr⟩ := slK_sound hp
  obtain ⟨ob', hp, hob⟩ := slObK_sound hp
  obtain ⟨rw', hk, hrw⟩ := strikeK_sound hp
  rw [setFRO_eq] at hk
  refine ⟨_, hk, fun {B ok0 w0 a w E} h => ?_⟩
  obtain ⟨v, us, hv, ho, hsz, hr, hok⟩ := h.mem.rw n e sz xs hn
  have hle : E.Le { E with ok := fun b => E.ok b ∨ v.ownBlock = some b } := ⟨fun b h => .inl h, fun _ _ h => h, fun _ _ h => h⟩
  have hobs := obs_ext (E' := { E with ok := fun b => E.ok b ∨ v.ownBlock = some b }) h.mem.ob hle (fun _ _ => rfl) (fun m o hm x hx hno hk => hk.elim hno (h.od.ro n m _ o v hn hm hv)) (fun _ _ _ x hx => hx)
  have hh : ∀ b, E.ok b → w.heap[b]? = w.heap[b]? := fun _ _ => rfl
  refine ⟨{ E with ok := fun b => E.ok b ∨ v.ownBlock = some b }, h.defs, h.size, fun t x hx => ?_, ⟨?_, ?_, ?_⟩, h.bb, fun n m x y g v hn hm => h.br n m x y g v hn (hrw m y hm).1, fun n m x y g v v' hn hm => h.rr n m x y g v v' (hrw n x hn).1 (hrw m y hm).1, h.fresh, ?_, ?_, fun b hb => .inl (h.ok_all b hb), h.hB, h.below, h.glob.ext hle.ok hh, fun t v hv => (h.svs t v hv).ext hle hh, ?_⟩
  · rcases hfr t x hx with h1 | ⟨h1, rfl⟩
    · exact ⟨(h.fr t x h1).1, (h.fr t x h1).2.ext hle hh⟩
    · obtain ⟨h2, he⟩ := h.fr t _ h1
      refine ⟨h2, ?_⟩
      have he' : E.ν n = some (a.tmps.getD t undef) := he
      rw [hv] at he'
      injection he' with he'
      rw [← he']
      exact own_seq ho hsz (hr.ext (w' := w) hle.ok hh) (fun g hg => .inr hg)
  · intro m T' cs' hm
    obtain ⟨g', us', hg', hB', hok', hgg', hr'⟩ := h.mem.bx m T' cs' hm
    refine ⟨g', us', hg', hB', fun hk => ?_, hgg', hr'.ext hle.ok hh⟩
    rcases hk with hk | hk
    · exact hok' hk
    · exact h.br m n _ _ g' v hm hn hg' hv hk
  · intro m e' sz' xs' hm
    obtain ⟨hm', hne⟩ := hrw m _ hm
    obtain ⟨v', us', hv', ho', hsz', hr', hok'⟩ := h.mem.rw m e' sz' xs' hm'
    refine ⟨v', us', hv', ho', hsz', hr'.ext hle.ok hh, fun k hk hk2 => ?_⟩
    rcases hk2 with hk2 | hk2
    · exact hok' k hk hk2
    · exact hne (h.rr m n _ _ k v' v hm' hn hv' hv hk hk2)
  · intro m o hm
    obtain ⟨y, hy, e | ⟨g, T, e1, e2⟩ | ⟨g, T, nc, sn, sn', e1, e2, e3⟩⟩ := hob m o hm
    · subst e; exact hobs m o hy
    · subst e1; subst e2
      obtain ⟨h1, h2, z, h3, h4, u, h5, h6⟩ := hobs m _ hy
      refine ⟨h1, h2, z, h3, h4, u, ?_, h6⟩
      have he' : E.ν n = some u := h5
      rw [hv] at he'
      injection he' with he'
      rw [← he']
      exact own_seq ho hsz (hr.ext (w' := w) hle.ok hh) (fun g hg => .inr hg)
    · subst e1; subst e2
      obtain ⟨h1, h2, z, h3, h4, us2, h5, h6, h7⟩ := hobs m _ hy
      refine ⟨h1, h2, z, h3, h4, us2, h5, h6, fun t x hx => ?_⟩
      rcases e3 t x hx with hx2 | ⟨hx2, hx3⟩
      · exact h7 t x hx2
      · obtain ⟨h8, h9⟩ := h7 t _ hx2
        subst hx3
        refine ⟨h8, ?_⟩
        have he' : E.ν n = some (us2.toArray.getD t undef) := h9
        rw [hv] at he'
        injection he' with he'
        rw [← he']
        exact own_seq ho hsz (hr.ext (w' := w) hle.ok hh) (fun g hg => .inr hg)
  · intro b hk
    rcases hk with hk | hk
    · exact h.ok_lt b hk
    · exact (ho.lt b hk).2
  · intro b hk
    rcases hk with hk | hk
    · exact h.ok_from b hk
    · exact .inr (ho.lt b hk).1
  · have key : ∀ m o, look ob' m = some o → ∃ y, look s.ob m = some y ∧ y.blk = o.blk := fun m o hm => by
      obtain ⟨y, hy, e | ⟨g, T, e1, e2⟩ | ⟨g, T, nc, sn, sn', e1, e2, _⟩⟩ := hob m o hm
      · subst e; exact ⟨_, hy, rfl⟩
      · subst e1; subst e2; exact ⟨_, hy, rfl⟩
      · subst e1; subst e2; exact ⟨_, hy, rfl⟩
    refine ⟨fun i j y z' hi hj he => ?_, fun i j y z' hi hj he => ?_, fun i j y z' v hi hj hv he => ?_⟩
    · obtain ⟨y1, h1, e1⟩ := key i y hi
      obtain ⟨y2, h2, e2⟩ := key j z' hj
      exact h.od.oo i j y1 y2 h1 h2 (by rw [e1, e2, he])
    · obtain ⟨y2, h2, e2⟩ := key j z' hj
      exact h.od.bo i j y y2 hi h2 (by rw [e2, he])
    · obtain ⟨y2, h2, e2⟩ := key j z' hj
      exact h.od.ro i j y y2 v (hrw i y hi).1 h2 hv (by rw [e2, he])

/-- A nil slice in slot t is a row without elements. -/
def rowK (s : AS) (t e sz : Nat) (K : AS → Prop) : Prop :=
  lookK s.fr t fun x => match x with
    | .p (.v (.slice none 0 0)) => eraseK s.fr t fun fr => setFRN s t fr (e, sz, []) K
    | _ => False
theorem rowK_sound {t e sz : Nat} {K : AS → Prop} (hp : rowK s t e sz K) : ∃ s', K s' ∧ ∀ {B : Nat} {ok0 : Base} {w0 : World} {a : Act} {w : World} {E : Env}, Sat C nt s B ok0 w0 a w E → ∃ E', Sat C nt s' B ok0 w0 a w E' := by
  obtain ⟨x, hx, hp⟩ := lookK_sound hp
  split at hp
  case h_2 => exact hp.elim
  obtain ⟨fr, hk, hfr⟩ := eraseK_sound hp
  rw [setFRN_eq] at hk
  refine ⟨_, hk, fun {B ok0 w0 a w E} h => ?_⟩
  obtain ⟨E', hle, hs, hh, hS⟩ := h.row (e := e) (sz := sz) (ys := []) (vs := []) (v := .slice none 0 0) (v' := .slice none 0 0) (w' := w) (rw' := s.rw)
    (fun m x hm => ⟨hm, fun k hk => by cases hkb : k.ownBlock with
      | none => exact .inl rfl
      | some b => exact .inr (by simp [Value.ownBlock])⟩)
    (fun n x g _ _ => by simp [Value.ownBlock]) (fun g hg => by simp [Value.ownBlock] at hg) (fun g hg => by simp [Value.ownBlock] at hg) ⟨rfl, rfl, rfl, Nat.le_refl _, fun _ _ _ => rfl⟩ (World.ownsRow_nil w B e sz) (by simp) .nil (.inl rfl) (fun _ _ _ => by simp [Value.ownBlock])
  obtain ⟨ht, hv⟩ := h.fr t _ hx
  have hv' := v_inv hv
  refine ⟨E', ?_⟩
  have := hS.put (fr' := (t, .own s.nx) :: fr) (d := t) (v := .own s.nx) (u := .slice none 0 0) ht (fun i hi y hy => by
    rw [look_cons_ne (Ne.symm hi)] at hy
    exact hfr i hi y hy) (fun y hy => by rw [look_cons_self] at hy; injection hy with hy; exact hy.symm) hs
  have hts : t < a.tmps.size := by rw [h.size]; exact ht
  have h3 : a.tmps[t] = .slice none 0 0 := by
    unfold Array.getD at hv'
    rw [dif_pos hts] at hv'
    exact hv'
  have he : a.tmps.setIfInBounds t (.slice none 0 0) = a.tmps := by
    rw [← h3, Array.setIfInBounds_def, dif_pos hts, Array.set_getElem_self]
  rw [he] at this
  exact this
end
end Go.Proofs.Ab
end
