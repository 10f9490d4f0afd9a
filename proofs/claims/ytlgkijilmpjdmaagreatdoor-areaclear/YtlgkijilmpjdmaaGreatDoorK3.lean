/- The machine, the contracts and the walks on which every Area law rests: a part of the proof. -/
import Derived.Test.YtlgkijilmpjdmaaGreatDoorK2
import Derived.Tactics
import Derived.RangeFuncLeaves
import Derived.Test.YtlgkijilmpjdmaaGreatDoorProg
import Derived.OpenShut
import Derived.Carry
import Derived.Laws.Cover2
import Derived.Lib.LaidTab
import Derived.Lib.ItoaNum
import Derived.Laws.StructEq
section
/- A region whose order is drawn: whatever the order, it comes to the state that the text's order comes to. -/
set_option linter.unusedVariables false
set_option linter.unusedSimpArgs false
namespace Go.Proofs.Ab
open Go Go.RowKit

inductive Reach (ops : List Oper) : Nat → Nat → Prop
  | step {j k : Nat} {q : Oper} : ops[j]? = some q → k ∈ edgesOf q → Reach ops j k
  | more {j k i : Nat} {q : Oper} : ops[j]? = some q → k ∈ edgesOf q → Reach ops k i → Reach ops j i

theorem testBit_fold (f : Nat → Nat) (i : Nat) : ∀ (es : List Nat) (b : Nat), (es.foldl (fun b k => b ||| ((1 <<< k) ||| f k)) b).testBit i = true → b.testBit i = true ∨ ∃ k ∈ es, i = k ∨ (f k).testBit i = true
  | [], b, h => .inl h
  | k :: es, b, h => by
    rcases testBit_fold f i es _ h with h1 | ⟨k', hk, h1⟩
    · rw [Nat.testBit_or, Nat.testBit_or, Bool.or_eq_true, Bool.or_eq_true, Nat.one_shiftLeft, Nat.testBit_two_pow] at h1
      rcases h1 with h1 | h1 | h1
      · exact .inl h1
      · exact .inr ⟨k, List.mem_cons_self, .inl (by simpa using (of_decide_eq_true h1).symm)⟩
      · exact .inr ⟨k, List.mem_cons_self, .inr h1⟩
    · exact .inr ⟨k', List.mem_cons_of_mem _ hk, h1⟩
theorem closFold {ops : List Oper} : ∀ (rest pre : List Oper) (acc : List Nat), ops = pre ++ rest → acc.length = pre.length → (∀ j i, (acc.getD j 0).testBit i = true → Reach ops j i) →
    ∀ j i, ((rest.foldl (fun acc o => acc ++ [(edgesOf o).foldl (fun b k => b ||| ((1 <<< k) ||| acc.getD k 0)) 0]) acc).getD j 0).testBit i = true → Reach ops j i
  | [], pre, acc, _, _, h, j, i, hi => h j i hi
  | o :: rest, pre, acc, he, hl, h, j, i, hi => by
    refine closFold rest (pre ++ [o]) (acc ++ [(edgesOf o).foldl (fun b k => b ||| ((1 <<< k) ||| acc.getD k 0)) 0]) (by rw [he]; simp) (by simp [hl]) (fun j i hi => ?_) j i hi
    rcases Nat.lt_trichotomy j acc.length with hj | hj | hj
    · exact h j i (by simpa [List.getD, List.getElem?_append, hj] using hi)
    · subst hj
      have : ((edgesOf o).foldl (fun b k => b ||| ((1 <<< k) ||| acc.getD k 0)) 0).testBit i = true := by simpa [List.getD, List.getElem?_append] using hi
      have ho : ops[acc.length]? = some o := by rw [he, hl]; simp
      rcases testBit_fold (fun k => acc.getD k 0) i _ _ this with h0 | ⟨k, hk, h1 | h1⟩
      · simp at h0
      · subst h1; exact .step ho hk
      · exact .more ho hk (h k i h1)
    · have : (acc ++ [(edgesOf o).foldl (fun b k => b ||| ((1 <<< k) ||| acc.getD k 0)) 0])[j]? = none := List.getElem?_eq_none (by simp; omega)
      rw [show (acc ++ [(edgesOf o).foldl (fun b k => b ||| ((1 <<< k) ||| acc.getD k 0)) 0]).getD j 0 = 0 from congrArg (fun x => Option.getD x 0) this] at hi
      simp at hi
theorem fullAt_spec {ops : List Oper} {j i : Nat} (h : fullAt (closOf ops) j = true) (hi : i < j) : Reach ops j i := by
  unfold fullAt at h
  have e := Nat.eq_of_beq_eq_true h
  refine closFold ops [] [] rfl rfl (fun j i hi => by simp at hi) j i ?_
  show ((closOf ops).getD j 0).testBit i = true
  rw [e, Nat.testBit_two_pow_sub_one]
  exact decide_eq_true hi
theorem preLen_le {ops : List Oper} (h : drawOk ops = true) : preLen ops ≤ ops.length := by
  unfold drawOk at h
  rw [Bool.and_eq_true] at h
  exact Nat.le_of_ble_eq_true h.1
theorem drawOk_spec {ops : List Oper} (h : drawOk ops = true) {j : Nat} {q : Oper} (hq : ops[j]? = some q) :
    (∀ k ∈ edgesOf q, k < j) ∧ ∀ i p, i < j → ops[i]? = some p → (clash ops p q = true → i ∈ edgesOf q) ∧ (preLen ops ≤ j → Reach ops j i) := by
  unfold drawOk at h
  rw [Bool.and_eq_true] at h
  have hj : j < ops.length := (List.getElem?_eq_some_iff.1 hq).1
  have h := List.all_eq_true.1 h.2 j (List.mem_range.2 hj)
  simp only [hq, Bool.and_eq_true] at h
  refine ⟨fun k hk => by simpa [Nat.blt_eq] using List.all_eq_true.1 h.1.1 k hk, fun i p hi hp => ?_⟩
  have h2 := List.all_eq_true.1 h.2 i (List.mem_range.2 hi)
  simp only [hp, Bool.or_eq_true] at h2
  refine ⟨fun hc => ?_, fun hm => ?_⟩
  · rcases h2 with h1 | h1
    · rw [hc] at h1; simp at h1
    · simpa using h1
  · have h3 := h.1.2
    rw [Bool.or_eq_true] at h3
    rcases h3 with h1 | h1
    · have : j < preLen ops := by simpa [Nat.blt_eq] using h1
      omega
    · exact fullAt_spec h1 hi
theorem clash_spec {ops : List Oper} {p q : Oper} (h : clash ops p q = false) : (∀ d, p.dst = some d → d ∉ readsOf ops q ∧ q.dst ≠ some d) ∧ (∀ d, q.dst = some d → d ∉ readsOf ops p) := by
  unfold clash at h
  rw [Bool.or_eq_false_iff] at h
  refine ⟨fun d hd => ?_, fun d hd => ?_⟩
  · have := h.1
    rw [hd] at this
    simp only [Bool.or_eq_false_iff] at this
    exact ⟨by simpa using this.1, fun e => by rw [e] at this; simp at this⟩
  · have := h.2
    rw [hd] at this
    simpa using this
theorem mem_edgesOf {o : Oper} {k : Nat} : k ∈ edgesOf o ↔ ∃ e ∈ o.after, Region.binds .any e = true ∧ e.on = k := by
  unfold edgesOf
  rw [List.mem_filterMap]
  constructor
  · rintro ⟨e, he, h⟩
    cases hb : Region.binds .any e with
    | true => rw [hb] at h; exact ⟨e, by simpa using he, hb, by simpa using h⟩
    | false => rw [hb] at h; simp at h
  · rintro ⟨e, he, hb, rfl⟩
    exact ⟨e, by simpa using he, by simp [hb]⟩

def Closed (ops : List Oper) (L : Nat → Prop) : Prop := ∀ k q, L k → ops[k]? = some q → ∀ e ∈ edgesOf q, L e
theorem Reach.listed {ops : List Oper} {L : Nat → Prop} (hL : Closed ops L) {j i : Nat} (h : Reach ops j i) : (∀ q, ops[j]? = some q → ∀ e ∈ edgesOf q, L e) → L i := by
  induction h with
  | step hq hk => exact fun h => h _ hq _ hk
  | more hq hk _ ih => exact fun h => ih (fun q' hq' => hL _ q' (h _ hq _ hk) hq')

theorem Sat.raise {C : Cx} {nt : Nat} {fr : List (Nat × SV)} {bx rw nx sv ob df} {B : Nat} {ok0 : Base} {w0 : World} {a : Act} {w : World} {E : Env} (h : Sat C nt ⟨fr, bx, rw, nx, sv, ob, df⟩ B ok0 w0 a w E) {nx' : Nat} (hn : nx ≤ nx') : Sat C nt ⟨fr, bx, rw, nx', sv, ob, df⟩ B ok0 w0 a w E :=
  ⟨h.defs, h.size, h.fr, ⟨h.mem.bx, h.mem.rw, h.mem.ob⟩, h.bb, h.br, h.rr, fun n hn' => h.fresh n (Nat.le_trans hn hn'), h.ok_lt, h.ok_from, h.ok_all, h.hB, h.below, h.glob, h.svs, h.od⟩

section
variable {C : Cx} {nt : Nat} {s0 s2 s3 : AS} {ops : List Oper} {F : Nat → Nat → Option SV} {G : Nat → Nat → Option (Nat × List PV)} {H : Nat → Nat → Option (Nat × Nat × List (List PV))} {Rv : Nat → SV} {Nd Bw : Nat → Option (Nat × (Nat × List PV))} {Cn Rn : Nat → Option Rw} {m : Nat}

/-- What a slot holds in the text's order: what the last that wrote it gave. -/
theorem last_of (hm : m ≤ ops.length) (T : PreTr C nt ops s0 m 0 [] s2 s3 F G H Rv Nd Bw Cn Rn) :
    ∀ i, i ≤ m → ∀ t x, F i t = some x → (∃ k q, k < i ∧ ops[k]? = some q ∧ q.dst = some t ∧ Rv k = x ∧ ∀ k' q', k < k' → k' < i → ops[k']? = some q' → q'.dst ≠ some t) ∨
      ((∀ k q, k < i → ops[k]? = some q → q.dst ≠ some t) ∧ look s2.fr t = some x)
  | 0, _, t, x, h => .inr ⟨fun k q hk => by omega, by rw [← T.F0]; exact h⟩
  | i + 1, hi, t, x, h => by
    have ho : ops[i]? = some ops[i] := List.getElem?_eq_getElem (by omega)
    rcases T.Fs i _ (Nat.zero_le _) (by omega) ho t x h with ⟨hd, rfl⟩ | ⟨hd, hx⟩
    · exact .inl ⟨i, _, by omega, ho, hd, rfl, fun k' q' h1 h2 => by omega⟩
    · rcases last_of hm T i (by omega) t x hx with ⟨k, q, h1, h2, h3, h4, h5⟩ | ⟨h1, h2⟩
      · refine .inl ⟨k, q, by omega, h2, h3, h4, fun k' q' h6 h7 h8 => ?_⟩
        by_cases e : k' = i
        · subst e; rw [ho] at h8; injection h8 with h8; rw [← h8]; exact hd
        · exact h5 k' q' h6 (by omega) h8
      · refine .inr ⟨fun k q h6 h7 => ?_, h2⟩
        by_cases e : k = i
        · subst e; rw [ho] at h7; injection h7 with h7; rw [← h7]; exact hd
        · exact h1 k q (by omega) h7
/-- What a box holds in the text's order. -/
theorem lastG_of (T : PreTr C nt ops s0 m 0 [] s2 s3 F G H Rv Nd Bw Cn Rn) :
    ∀ i, i ≤ m → ∀ n x, G i n = some x → (∃ k, k < i ∧ Bw k = some (n, x) ∧ ∀ k' y, k < k' → k' < i → Bw k' ≠ some (n, y)) ∨ ((∀ k y, k < i → Bw k ≠ some (n, y)) ∧ look s2.bx n = some x)
  | 0, _, n, x, h => .inr ⟨fun k q hk => by omega, by rw [← T.G0]; exact h⟩
  | i + 1, hi, n, x, h => by
    rcases T.Gs i (Nat.zero_le _) (by omega) n x h with hb | ⟨hd, hx⟩
    · exact .inl ⟨i, by omega, hb, fun k' q' h1 h2 => by omega⟩
    · rcases lastG_of T i (by omega) n x hx with ⟨k, h1, h2, h5⟩ | ⟨h1, h2⟩
      · refine .inl ⟨k, by omega, h2, fun k' y h6 h7 h8 => ?_⟩
        by_cases e : k' = i
        · subst e; exact hd y h8
        · exact h5 k' y h6 (by omega) h8
      · refine .inr ⟨fun k y h6 h7 => ?_, h2⟩
        by_cases e : k = i
        · subst e; exact hd y h7
        · exact h1 k y (by omega) h7

/-- What rows there are in the text's order. -/
theorem lastH_of (T : PreTr C nt ops s0 m 0 [] s2 s3 F G H Rv Nd Bw Cn Rn) :
    ∀ i, i ≤ m → ∀ n x, H i n = some x → (∃ k, k < i ∧ Rn k = some (n, x) ∧ ∀ k' y, k < k' → k' < i → Cn k' ≠ some (n, y)) ∨ ((∀ k y, k < i → Cn k ≠ some (n, y)) ∧ look s2.rw n = some x)
  | 0, _, n, x, h => .inr ⟨fun k q hk => by omega, by rw [← T.H0]; exact h⟩
  | i + 1, hi, n, x, h => by
    rcases T.Hs i (Nat.zero_le _) (by omega) n x h with hb | ⟨hd, hx⟩
    · exact .inl ⟨i, by omega, hb, fun k' q' h1 h2 => by omega⟩
    · rcases lastH_of T i (by omega) n x hx with ⟨k, h1, h2, h5⟩ | ⟨h1, h2⟩
      · refine .inl ⟨k, by omega, h2, fun k' y h6 h7 h8 => ?_⟩
        by_cases e : k' = i
        · subst e; exact hd y h8
        · exact h5 k' y h6 (by omega) h8
      · refine .inr ⟨fun k y h6 h7 => ?_, h2⟩
        by_cases e : k = i
        · subst e; exact hd y h7
        · exact h1 k y (by omega) h7
/-- How the rows are named. -/
structure NamesR (s0 s2 : AS) (m : Nat) (H : Nat → Nat → Option (Nat × Nat × List (List PV))) (Cn Rn : Nat → Option Rw) : Prop where
  same : s0.rw = s2.rw
  made : ∀ k, k < m → ∀ n x, Rn k = some (n, x) → n = s2.nx + k
  used : ∀ k, k < m → ∀ n x, Cn k = some (n, x) → H k n = some x ∧ look s0.rw n = none
  one : ∀ k k' n x x', k < k' → k' < m → Cn k = some (n, x) → Cn k' ≠ some (n, x')
  last : ∀ i, i ≤ m → ∀ n x, H i n = some x → (∃ k, k < i ∧ Rn k = some (n, x) ∧ ∀ k' y, k < k' → k' < i → Cn k' ≠ some (n, y)) ∨ ((∀ k y, k < i → Cn k ≠ some (n, y)) ∧ look s2.rw n = some x)
/-- How the boxes are named. -/
structure Names (s0 s2 : AS) (m : Nat) (G : Nat → Nat → Option (Nat × List PV)) (Nd Bw : Nat → Option (Nat × (Nat × List PV))) : Prop where
  old : ∀ n x, look s2.bx n = some x → n < s2.nx
  kind : ∀ k, k < m → (Nd k = none ∧ ∀ n x, Bw k = some (n, x) → n = s2.nx + k) ∨ (∃ n x y, Nd k = some (n, x) ∧ Bw k = some (n, y) ∧ G k n = some x ∧ look s0.bx n = none)
  one : ∀ k k' n x x', k < k' → k' < m → Nd k = some (n, x) → Nd k' ≠ some (n, x')
  last : ∀ i, i ≤ m → ∀ n x, G i n = some x → (∃ k, k < i ∧ Bw k = some (n, x) ∧ ∀ k' y, k < k' → k' < i → Bw k' ≠ some (n, y)) ∨ ((∀ k y, k < i → Bw k ≠ some (n, y)) ∧ look s2.bx n = some x)
/-- A box that is stored into has a name that was given before. -/
theorem Names.lt (N : Names s0 s2 m G Nd Bw) {k n : Nat} {x : Nat × List PV} (hk : k < m) (h : Nd k = some (n, x)) : n < s2.nx + k := by
  rcases N.kind k hk with ⟨h1, _⟩ | ⟨n', x', y, h1, _, h3, _⟩
  · rw [h] at h1; cases h1
  · rw [h] at h1
    injection h1 with h1
    injection h1 with h1 h1'
    subst h1
    rcases N.last k (by omega) _ _ h3 with ⟨k', h4, h5, _⟩ | ⟨_, h5⟩
    · rcases N.kind k' (by omega) with ⟨_, h6⟩ | ⟨n', x2, y2, h6, h7, _⟩
      · have := h6 _ _ h5; omega
      · rw [h5] at h7
        injection h7 with h7
        injection h7 with h7 _
        subst h7
        exact absurd h (N.one k' k _ _ _ h4 hk h6)
    · have := N.old _ _ h5; omega
/-- Two that write one box: a new variable, then a store. -/
theorem Names.two (N : Names s0 s2 m G Nd Bw) {i k n : Nat} {x y : Nat × List PV} (hi : i < m) (hk : k < m) (hik : i ≠ k) (h1 : Bw i = some (n, x)) (h2 : Bw k = some (n, y)) : (n = s2.nx + i ∧ i < k ∧ ∃ z, Nd k = some (n, z)) ∨ (n = s2.nx + k ∧ k < i ∧ ∃ z, Nd i = some (n, z)) := by
  rcases N.kind i hi with ⟨_, a2⟩ | ⟨n1, x1, y1, a1, a2, _⟩ <;> rcases N.kind k hk with ⟨_, b2⟩ | ⟨n2, x2, y2, b1, b2, _⟩
  · have := a2 _ _ h1; have := b2 _ _ h2; omega
  · rw [h2] at b2
    injection b2 with b2
    injection b2 with b2 _
    subst b2
    have := a2 _ _ h1; have := N.lt hk b1
    exact .inl ⟨by omega, by omega, _, b1⟩
  · rw [h1] at a2
    injection a2 with a2
    injection a2 with a2 _
    subst a2
    have := b2 _ _ h2; have := N.lt hi a1
    exact .inr ⟨by omega, by omega, _, a1⟩
  · rw [h1] at a2
    injection a2 with a2
    injection a2 with a2 _
    subst a2
    rw [h2] at b2
    injection b2 with b2
    injection b2 with b2 _
    subst b2
    rcases Nat.lt_or_gt_of_ne hik with h | h
    · exact absurd b1 (N.one i k _ _ _ h hk a1)
    · exact absurd a1 (N.one k i _ _ _ h hi b1)

/-- The values listed so far are in place. -/
structure PreInv (C : Cx) (nt : Nat) (s2 : AS) (ops : List Oper) (m : Nat) (Rv : Nat → SV) (Bw : Nat → Option (Nat × (Nat × List PV))) (Cn Rn : Nat → Option Rw) (B : Nat) (ok0 : Base) (w0 : World) (L : Nat → Prop) (a : Act) (w : World) (E : Env) (bx : List (Nat × (Nat × List PV))) (rw : List Rw) : Prop where
  lt : ∀ k, L k → k < m
  closed : Closed ops L
  sat : Sat C nt ⟨[], bx, rw, s2.nx + m, s2.sv, s2.ob, s2.df⟩ B ok0 w0 a w E
  old : ∀ n x, look s2.bx n = some x → (∀ i y, L i → Bw i ≠ some (n, y)) → look bx n = some x
  new : ∀ i n x, L i → Bw i = some (n, x) → (∀ k y, L k → i < k → Bw k ≠ some (n, y)) → look bx n = some x
  free : ∀ i, i < m → ¬ L i → E.β (s2.nx + i) = none
  rold : ∀ n x, look s2.rw n = some x → look rw n = some x
  rnew : ∀ i n x, L i → Rn i = some (n, x) → (∀ k y, L k → Cn k ≠ some (n, y)) → look rw n = some x
  rfree : ∀ i, i < m → ¬ L i → E.ν (s2.nx + i) = none
  val : ∀ i o d, L i → ops[i]? = some o → o.dst = some d → (∀ k q, L k → i < k → ops[k]? = some q → q.dst ≠ some d) → SRep w E (Rv i) (a.tmps.getD d undef)
  rest : ∀ t x, look s2.fr t = some x → (∀ k q, L k → ops[k]? = some q → q.dst ≠ some t) → SRep w E x (a.tmps.getD t undef)

theorem getD_put_self {a : Act} {d : Nat} {u : Value} (h : d < a.tmps.size) : (a.put (some d) u).tmps.getD d undef = u := by simp [Act.put, Array.getD, h]
theorem getD_put_ne {a : Act} {dst : Option Nat} {t : Nat} {u : Value} (h : dst ≠ some t) : (a.put dst u).tmps.getD t undef = a.tmps.getD t undef := by
  cases dst with
  | none => rfl
  | some d =>
    have e' : ¬ d = t := fun e => h (by rw [e])
    by_cases ht : t < a.tmps.size <;> simp [Act.put, Array.getD, ht, Array.getElem_setIfInBounds, e']

section
variable {B : Nat} {ok0 : Base} {w0 : World} {L L' : Nat → Prop} {a : Act} {w w' : World} {E E' : Env} {bx bx' : List (Nat × (Nat × List PV))} {rw rw' : List Rw}
/-- What an operation that is ready reads is what it reads in the text's order. -/
theorem PreInv.reads (hI : PreInv C nt s2 ops m Rv Bw Cn Rn B ok0 w0 L a w E bx rw) (hok : drawOk ops = true) (hm : m ≤ ops.length) (T : PreTr C nt ops s0 m 0 [] s2 s3 F G H Rv Nd Bw Cn Rn)
    (hfr : ∀ t x, look s2.fr t = some x → t < nt) {i : Nat} {o : Oper} (hi : i < m) (ho : ops[i]? = some o) (hnl : ¬ L i) (hed : ∀ e ∈ edgesOf o, L e) :
    ∀ t ∈ readsOf ops o, ∀ x, F i t = some x → t < nt ∧ SRep w E x (a.tmps.getD t undef) := by
  intro t ht x hx
  have later : ∀ k q, L k → i < k → ops[k]? = some q → q.dst ≠ some t := by
    intro k q hk hik hq hd
    have h1 := ((drawOk_spec hok hq).2 i o hik ho).1
    cases hc : clash ops o q with
    | true => exact hnl (hI.closed k q hk hq i (h1 hc))
    | false => exact (clash_spec hc).2 t hd ht
  rcases last_of hm T i (Nat.le_of_lt hi) t x hx with ⟨k, q, hk, hq, hd, rfl, hbt⟩ | ⟨hno, hx⟩
  · have hLk : L k := by
      have h1 := ((drawOk_spec hok ho).2 k q hk hq).1
      cases hc : clash ops q o with
      | true => exact hed k (h1 hc)
      | false => exact absurd ht ((clash_spec hc).1 t hd).1
    refine ⟨T.dst k q (Nat.zero_le _) (by omega) hq t hd, hI.val k q t hLk hq hd (fun k' q' hk' hkk hq' => ?_)⟩
    rcases Nat.lt_trichotomy k' i with h1 | h1 | h1
    · exact hbt k' q' hkk h1 hq'
    · subst h1; exact absurd hk' hnl
    · exact later k' q' hk' h1 hq'
  · refine ⟨hfr t x hx, hI.rest t x hx (fun k' q' hk' hq' => ?_)⟩
    rcases Nat.lt_trichotomy k' i with h1 | h1 | h1
    · exact hno k' q' h1 hq'
    · subst h1; exact absurd hk' hnl
    · exact later k' q' hk' h1 hq'
theorem PreInv.mapped (hI : PreInv C nt s2 ops m Rv Bw Cn Rn B ok0 w0 L a w E bx rw) {n : Nat} {x : Nat × List PV} (h : look bx n = some x) : ∃ g, E.β n = some g := by
  obtain ⟨g, _, hg, _⟩ := hI.sat.mem.bx n x.1 x.2 h
  exact ⟨g, hg⟩
/-- The box that it stores into is as it is in the text's order. -/
theorem PreInv.need (hI : PreInv C nt s2 ops m Rv Bw Cn Rn B ok0 w0 L a w E bx rw) (N : Names s0 s2 m G Nd Bw) {i : Nat} (hi : i < m) (hnl : ¬ L i) : ∀ n x g, Nd i = some (n, x) → E.β n = some g → look bx n = some x := by
  intro n x g hnd hg
  have hlt := N.lt hi hnd
  have nobody : ∀ k y, L k → (n ≠ s2.nx + k) → Bw k ≠ some (n, y) := by
    intro k y hk hne hb
    rcases N.kind k (hI.lt k hk) with ⟨_, h1⟩ | ⟨n', x', y', h1, h2, _⟩
    · exact hne (h1 _ _ hb)
    · rw [hb] at h2
      injection h2 with h2
      injection h2 with h2 _
      subst h2
      have hki : k ≠ i := fun e => hnl (e ▸ hk)
      rcases Nat.lt_or_gt_of_ne hki with h | h
      · exact absurd hnd (N.one k i _ _ _ h hi h1)
      · exact absurd h1 (N.one i k _ _ _ h (hI.lt k hk) hnd)
  rcases N.kind i hi with ⟨h1, _⟩ | ⟨n', x', y, h1, _, h3, _⟩
  · rw [hnd] at h1; cases h1
  · rw [hnd] at h1
    injection h1 with h1
    injection h1 with h1 h1'
    subst h1; subst h1'
    rcases N.last i (by omega) _ _ h3 with ⟨k, h4, h5, _⟩ | ⟨h4, h5⟩
    · have hk : n = s2.nx + k := by
        rcases N.kind k (by omega) with ⟨_, h6⟩ | ⟨n', x2, y2, h6, h7, _⟩
        · exact h6 _ _ h5
        · rw [h5] at h7
          injection h7 with h7
          injection h7 with h7 _
          subst h7
          exact absurd hnd (N.one k i _ _ _ h4 hi h6)
      have hLk : L k := Classical.byContradiction fun hn => by
        have := hI.free k (by omega) hn
        rw [← hk, hg] at this
        cases this
      exact hI.new k n _ hLk h5 (fun k' y' hk' hkk => nobody k' y' hk' (by omega))
    · refine hI.old n _ h5 (fun k y' hk => nobody k y' hk ?_)
      have := N.old _ _ h5
      omega

/-- The row that it uses up is as it is in the text's order. -/
theorem PreInv.needR (hI : PreInv C nt s2 ops m Rv Bw Cn Rn B ok0 w0 L a w E bx rw) (N : NamesR s0 s2 m H Cn Rn) {i : Nat} (hi : i < m) (hnl : ¬ L i) : ∀ n x v, Cn i = some (n, x) → E.ν n = some v → look rw n = some x := by
  intro n x v hc hv
  obtain ⟨h1, h2⟩ := N.used i hi n x hc
  rcases N.last i (by omega) n x h1 with ⟨k, h3, h4, _⟩ | ⟨_, h4⟩
  · have hn := N.made k (by omega) n x h4
    have hLk : L k := Classical.byContradiction fun hk => by
      have := hI.rfree k (by omega) hk
      rw [← hn, hv] at this
      cases this
    refine hI.rnew k n x hLk h4 (fun k' y hk' hc' => ?_)
    have hne : k' ≠ i := fun e => hnl (e ▸ hk')
    rcases Nat.lt_or_gt_of_ne hne with h | h
    · exact N.one k' i _ _ _ h hi hc' hc
    · exact N.one i k' _ _ _ h (hI.lt k' hk') hc hc'
  · rw [N.same] at h2
    rw [h2] at h4
    cases h4
theorem PreInv.next (hI : PreInv C nt s2 ops m Rv Bw Cn Rn B ok0 w0 L a w E bx rw) (hok : drawOk ops = true) (N : Names s0 s2 m G Nd Bw) (NR : NamesR s0 s2 m H Cn Rn) {i : Nat} {o : Oper} (hi : i < m) (ho : ops[i]? = some o) (hnl : ¬ L i) (hed : ∀ e ∈ edgesOf o, L e) (hdn : ∀ d, o.dst = some d → d < nt) (hL : ∀ k, L' k ↔ k = i ∨ L k) {u : Value}
    (hS : Sat C nt ⟨[], bx', rw', s2.nx + m, s2.sv, s2.ob, s2.df⟩ B ok0 w0 (a.put o.dst u) w' E') (hu : SRep w' E' (Rv i) u) (hext : ∀ x u, SRep w E x u → SRep w' E' x u) (hbx : ∀ n x, look bx n = some x → (∀ y, Bw i ≠ some (n, y)) → look bx' n = some x) (hal : ∀ n x, Bw i = some (n, x) → look bx' n = some x)
    (hrw : ∀ n x, look rw n = some x → (∀ y, Cn i ≠ some (n, y)) → look rw' n = some x) (hra : ∀ n x, Rn i = some (n, x) → look rw' n = some x) (hβ : ∀ n, n ≠ s2.nx + i → E'.β n = E.β n) (hν : ∀ n, n ≠ s2.nx + i → E'.ν n = E.ν n) : PreInv C nt s2 ops m Rv Bw Cn Rn B ok0 w0 L' (a.put o.dst u) w' E' bx' rw' := by
  have nodst : ∀ k q d, L k → i < k → ops[k]? = some q → q.dst = some d → o.dst ≠ some d := by
    intro k q d hk hik hq hd he
    have h1 := ((drawOk_spec hok hq).2 i o hik ho).1
    cases hc : clash ops o q with
    | true => exact hnl (hI.closed k q hk hq i (h1 hc))
    | false => exact ((clash_spec hc).1 d he).2 hd
  refine ⟨fun k hk => ?_, fun k q hk hq e he => ?_, hS, fun n x hx hno => ?_, fun k n x hk hx hlast => ?_, fun k hk hnk => ?_, fun n x hx => ?_, fun k n x hk hx hno => ?_, fun k hk hnk => ?_, fun k q d hk hq hd hlast => ?_, fun t x hx hno => ?_⟩
  · rcases (hL k).1 hk with rfl | hk
    · exact hi
    · exact hI.lt k hk
  · rcases (hL k).1 hk with rfl | hk
    · rw [ho] at hq; injection hq with hq; subst hq
      exact (hL e).2 (.inr (hed e he))
    · exact (hL e).2 (.inr (hI.closed k q hk hq e he))
  · exact hbx n x (hI.old n x hx (fun k y hk => hno k y ((hL k).2 (.inr hk)))) (fun y => hno i y ((hL i).2 (.inl rfl)))
  · rcases (hL k).1 hk with rfl | hk
    · exact hal n x hx
    · have hnew := hI.new k n x hk hx (fun k' y hk' => hlast k' y ((hL k').2 (.inr hk')))
      refine hbx n x hnew (fun y hy => ?_)
      have hki : i ≠ k := fun e => hnl (e ▸ hk)
      rcases N.two hi (hI.lt k hk) hki hy hx with ⟨h1, h2, _⟩ | ⟨h1, h2, _⟩
      · obtain ⟨g, hg⟩ := hI.mapped hnew
        have := hI.free i hi hnl
        rw [← h1, hg] at this
        cases this
      · exact hlast i y ((hL i).2 (.inl rfl)) h2 hy
  · rw [hβ _ (fun e => hnk ((hL k).2 (.inl (by omega))))]
    exact hI.free k hk (fun h => hnk ((hL k).2 (.inr h)))
  · refine hrw n x (hI.rold n x hx) (fun y hc => ?_)
    have := (NR.used i hi n y hc).2
    rw [NR.same, hx] at this
    cases this
  · rcases (hL k).1 hk with rfl | hk
    · exact hra n x hx
    · exact hrw n x (hI.rnew k n x hk hx (fun k' y hk' => hno k' y ((hL k').2 (.inr hk')))) (fun y => hno i y ((hL i).2 (.inl rfl)))
  · rw [hν _ (fun e => hnk ((hL k).2 (.inl (by omega))))]
    exact hI.rfree k hk (fun h => hnk ((hL k).2 (.inr h)))
  · rcases (hL k).1 hk with rfl | hk
    · rw [ho] at hq; injection hq with hq; subst hq
      rw [hd, getD_put_self (by rw [← hI.sat.size] at hdn; exact hdn d hd)]
      exact hu
    · have hne : o.dst ≠ some d := fun he => by
        rcases Nat.lt_trichotomy i k with h1 | h1 | h1
        · exact nodst k q d hk h1 hq hd he
        · subst h1; exact hnl hk
        · exact hlast i o ((hL i).2 (.inl rfl)) h1 ho he
      rw [getD_put_ne hne]
      exact hext _ _ (hI.val k q d hk hq hd (fun k' q' hk' => hlast k' q' ((hL k').2 (.inr hk'))))
  · have hne : o.dst ≠ some t := hno i o ((hL i).2 (.inl rfl)) ho
    rw [getD_put_ne hne]
    exact hext _ _ (hI.rest t x hx (fun k' q' hk' => hno k' q' ((hL k').2 (.inr hk'))))

/-- All the values are there: the state is the text's. -/
theorem PreInv.done (hI : PreInv C nt s2 ops m Rv Bw Cn Rn B ok0 w0 L a w E bx rw) (hm : m ≤ ops.length) (T : PreTr C nt ops s0 m 0 [] s2 s3 F G H Rv Nd Bw Cn Rn) (N : Names s0 s2 m G Nd Bw) (NR : NamesR s0 s2 m H Cn Rn)
    (hfr : ∀ t x, look s2.fr t = some x → t < nt) (hall : ∀ k, k < m → L k) : Sat C nt { s3 with nx := s2.nx + m } B ok0 w0 a w E := by
  have h := hI.sat.lessR (fr := s3.fr) (bx := s3.bx) (rw := s3.rw) (fun t x hx => ?_) (fun n x hx => ?_) (fun n x hx => ?_)
  · have e : ({ s3 with nx := s2.nx + m } : AS) = ⟨s3.fr, s3.bx, s3.rw, s2.nx + m, s2.sv, s2.ob, s2.df⟩ := by rw [← T.same.sv, ← T.same.ob, ← T.same.df]
    rw [e]
    exact h
  · rw [← T.Fe, Nat.zero_add] at hx
    rcases last_of hm T m (Nat.le_refl m) t x hx with ⟨k, q, hk, hq, hd, rfl, hbt⟩ | ⟨hno, hx⟩
    · exact ⟨T.dst k q (Nat.zero_le _) (by omega) hq t hd, hI.val k q t (hall k hk) hq hd (fun k' q' hk' hkk hq' => hbt k' q' hkk (hI.lt k' hk') hq')⟩
    · exact ⟨hfr t x hx, hI.rest t x hx (fun k' q' hk' hq' => hno k' q' (hI.lt k' hk') hq')⟩
  · rw [← T.Ge, Nat.zero_add] at hx
    rcases N.last m (Nat.le_refl m) n x hx with ⟨k, hk, hb, hbt⟩ | ⟨hno, hx⟩
    · exact hI.new k n x (hall k hk) hb (fun k' y hk' hkk => hbt k' y hkk (hI.lt k' hk'))
    · exact hI.old n x hx (fun k y hk => hno k y (hI.lt k hk))
  · rw [← T.He, Nat.zero_add] at hx
    rcases NR.last m (Nat.le_refl m) n x hx with ⟨k, hk, hb, hbt⟩ | ⟨hno, hx⟩
    · refine hI.rnew k n x (hall k hk) hb (fun k' y hk' hc => ?_)
      rcases Nat.lt_trichotomy k' k with h1 | h1 | h1
      · -- used up before it was made: no
        obtain ⟨h2, h3⟩ := NR.used k' (hI.lt k' hk') n y hc
        rcases NR.last k' (Nat.le_of_lt (hI.lt k' hk')) n y h2 with ⟨k2, h4, h5, _⟩ | ⟨_, h5⟩
        · have e1 := NR.made k2 (by have := hI.lt k' hk'; omega) n y h5
          have e2 := NR.made k hk n x hb
          omega
        · rw [NR.same, h5] at h3
          cases h3
      · subst h1
        obtain ⟨h2, h3⟩ := NR.used k' hk n y hc
        rcases NR.last k' (Nat.le_of_lt hk) n y h2 with ⟨k2, h4, h5, _⟩ | ⟨_, h5⟩
        · have e1 := NR.made k2 (by omega) n y h5
          have e2 := NR.made k' hk n x hb
          omega
        · rw [NR.same, h5] at h3
          cases h3
      · exact hbt k' y h1 (hI.lt k' hk') hc
    · exact hI.rold n x hx
end
end

theorem draw_region {C : Cx} {nt : Nat} {s : AS} {K : AS → Prop} (hC : C.Good) {mu : List Nat} {ops : List Oper} {id : Nat} {Q : Exit → Act → World → Prop} {Fn : Fence} {fu : Nat} (hFn : FW C Fn) (h : drawK C nt mu ops s K) {B ok0 w0 a w E} (hS : Sat C nt s B ok0 w0 a w E)
    (hQ : ∀ s' a' w' E', K s' → Sat C nt s' B ok0 w0 a' w' E' → Q .normal a' w') : (Code.region id ops.toArray true).wpIn Fn fu C.P Q a w := by
  obtain ⟨hok, h⟩ := h
  obtain ⟨s1, h, h1⟩ := sealOpsK_sound (C := C) (nt := nt) h
  obtain ⟨s2, h, h2⟩ := freezeOpsK_sound (C := C) (nt := nt) h
  obtain ⟨E1, hS1⟩ := h1 hS
  obtain ⟨E2, hS2⟩ := h2 hS1
  rw [splitK_eq] at h
  obtain ⟨bx0, h, hz⟩ := zonK_sound h
  rw [setBx_eq] at h
  have hml := preLen_le hok
  have hlen : (ops.take (preLen ops)).length = preLen ops := by simp; omega
  obtain ⟨s3, F, G, H, Rv, Nd, Bw, Cn, Rn, hK, T⟩ := preK_sound (ops := ops) hC (fun j hj => by
    rw [hlen] at hj
    rw [Nat.zero_add]
    simp [List.getElem?_take, hj]) h
  rw [hlen] at T
  rw [cntK_eq, setNx_eq, hlen, Nat.zero_add] at hK
  generalize hmm : preLen ops = m at *
  have hfr : ∀ t x, look s2.fr t = some x → t < nt := fun t x hx => (hS2.fr t x hx).1
  have N : Names { s2 with bx := bx0 } s2 m G Nd Bw := by
    refine ⟨fun n x hx => ?_, fun k hk => ?_, fun k k' n x x' h1 h2 => T.one k k' n x x' (Nat.zero_le _) h1 (by omega), lastG_of T⟩
    · obtain ⟨g, _, hg, _⟩ := hS2.mem.bx n x.1 x.2 hx
      rcases Nat.lt_or_ge n s2.nx with h | h
      · exact h
      · rw [(hS2.fresh n h).1] at hg; cases hg
    · rcases T.kind k (Nat.zero_le _) (by omega) with h | ⟨n, x, y, h1, h2, h3, h4, _⟩
      · exact .inl h
      · exact .inr ⟨n, x, y, h1, h2, h3, h4⟩
  have NR : NamesR { s2 with bx := bx0 } s2 m H Cn Rn := ⟨rfl, fun k hk => (T.rkind k (Nat.zero_le _) (by omega)).1, fun k hk n x hc => ⟨((T.rkind k (Nat.zero_le _) (by omega)).2 n x hc).1, ((T.rkind k (Nat.zero_le _) (by omega)).2 n x hc).2.1⟩, fun k k' n x x' h1 h2 => T.oneR k k' n x x' (Nat.zero_le _) h1 (by omega), lastH_of T⟩
  refine wpIn_region_any hC.mixed ?_
  let D : Array Bool → Act → World → Prop := fun l a w =>
    (∃ E bx rw, PreInv C nt s2 ops m Rv Bw Cn Rn B ok0 w0 (fun k => l.getD k false = true) a w E bx rw) ∨
    (∃ j s E, m ≤ j ∧ (∀ k, l.getD k false = true ↔ k < j) ∧ lexK C nt mu ops (ops.drop j) s K ∧ Sat C nt s B ok0 w0 a w E)
  have hset : ∀ (l : Array Bool) (i k : Nat), l.size = ops.toArray.size → i < ops.length → ((l.setIfInBounds i true).getD k false = true ↔ k = i ∨ l.getD k false = true) := by
    intro l i k hl hi
    have hil : i < l.size := by rw [hl]; simpa using hi
    by_cases e : k = i
    · subst e; simp [Array.getD, hil]
    · have e' : ¬ i = k := fun h => e h.symm
      by_cases hk : k < l.size <;> simp [Array.getD, hk, Array.getElem_setIfInBounds, e, e']
  have toB : ∀ (l : Array Bool) a w E bx rw, PreInv C nt s2 ops m Rv Bw Cn Rn B ok0 w0 (fun k => l.getD k false = true) a w E bx rw → (∀ k, k < m → l.getD k false = true) → ∃ j s E, m ≤ j ∧ (∀ k, l.getD k false = true ↔ k < j) ∧ lexK C nt mu ops (ops.drop j) s K ∧ Sat C nt s B ok0 w0 a w E := by
    intro l a w E bx rw hI hl
    exact ⟨m, _, E, Nat.le_refl _, fun k => ⟨hI.lt k, hl k⟩, hK, hI.done hml T N NR hfr hl⟩
  have hstepB : ∀ (l : Array Bool) (a : Act) (w : World) (i : Nat) (o : Oper), l.size = ops.toArray.size → ops[i]? = some o → m ≤ i → l.getD i false = false → (∀ e ∈ edgesOf o, l.getD e false = true) →
      (∃ j s E, m ≤ j ∧ (∀ k, l.getD k false = true ↔ k < j) ∧ lexK C nt mu ops (ops.drop j) s K ∧ Sat C nt s B ok0 w0 a w E) → wpOpIn Fn fu C.P ops.toArray Q i (D (l.setIfInBounds i true)) a w := by
    intro l a w i o hl ho hmi hli hed ⟨j, s, E, hmj, hlj, hk, hSs⟩
    have hcl : Closed ops (fun k => l.getD k false = true) := fun k q hk hq e he => by
      have := (drawOk_spec hok hq).1 e he
      have := (hlj k).1 hk
      exact (hlj e).2 (by omega)
    have hil : i < ops.length := (List.getElem?_eq_some_iff.1 ho).1
    have hij : i = j := by
      rcases Nat.lt_trichotomy i j with h1 | h1 | h1
      · have := (hlj i).2 h1
        rw [hli] at this
        cases this
      · exact h1
      · exfalso
        have hj : ops[j]? = some ops[j] := List.getElem?_eq_getElem (by omega)
        have hr := ((drawOk_spec hok ho).2 j _ h1 hj).2 (by omega)
        have := hr.listed hcl (fun q hq => by rw [ho] at hq; injection hq with hq; subst hq; exact hed)
        have := (hlj j).1 this
        omega
    subst hij
    have hd : ops.drop i = o :: ops.drop (i + 1) := by
      rw [List.drop_eq_getElem_cons hil]
      rw [List.getElem?_eq_getElem hil] at ho
      injection ho with ho
      rw [ho]
    rw [hd] at hk
    have hlj' : ∀ k, (l.setIfInBounds i true).getD k false = true ↔ k < i + 1 := fun k => by
      rw [hset l i k hl hil, hlj k]
      omega
    unfold wpOpIn
    have ho' : ops.toArray[i]? = some o := by simpa using ho
    simp only [ho']
    rcases guardK_sound (C := C) (nt := nt) hk with ⟨hr, hw⟩ | ⟨hr, hw⟩
    · rw [if_pos (hw hSs)]
      exact opK_sound hC hr hFn B ok0 w0 a w E _ Q hSs (fun s' a' w' E' hk hS' => .inr ⟨i + 1, s', E', by omega, hlj', hk, hS'⟩)
    · rw [if_neg (by rw [hw hSs]; simp)]
      obtain ⟨s', hk, _, _, _, hput⟩ := putFK_sound (C := C) hr
      exact ⟨fun f _ => hFn.fn f, .inr ⟨i + 1, s', E, by omega, hlj', hk, hput hSs (.v undef)⟩⟩
  refine wpAny_of_inv D ?_ ?_ ?_ ops.toArray.size _ _ _ (by simp) (Nat.le_trans (List.length_filter_le _ _) (by simp)) ?_
  · intro j o ho e he hb
    exact (drawOk_spec hok (by simpa using ho)).1 e.on (mem_edgesOf.2 ⟨e, he, hb, rfl⟩)
  · intro l a w i hl hD hi
    obtain ⟨hli, o, ho, hed⟩ := mem_ready.1 hi
    have ho' : ops[i]? = some o := by simpa using ho
    have hil : i < ops.length := (List.getElem?_eq_some_iff.1 ho').1
    have hnl : l.getD i false = false := by
      have : i < l.size := by rw [hl]; simpa using hil
      simp [Array.getD, this] at hli ⊢
      exact hli
    have hed' : ∀ e ∈ edgesOf o, l.getD e false = true := fun e he => by
      obtain ⟨e', he', hb, rfl⟩ := mem_edgesOf.1 he
      exact hed e' he' hb
    rcases hD with ⟨E, bx, rw, hI⟩ | hB
    · rcases Nat.lt_or_ge i m with him | him
      · have hnl' : ¬ l.getD i false = true := by rw [hnl]; simp
        refine T.rk i o (Nat.zero_le _) (by omega) ho' Fn fu hFn B ok0 w0 a w E bx rw _ _ Q hI.sat ?_ hI.rold (by show s2.nx + i < s2.nx + m; omega) (hI.free i him hnl') (hI.rfree i him hnl') (hI.reads hok hml T hfr him ho' hnl' hed') (hI.need N him hnl') (hI.needR NR him hnl') ?_ ho'
        · intro n x hx
          refine hI.old n x (hz n x hx) (fun k y hk hb => ?_)
          rcases N.kind k (hI.lt k hk) with ⟨_, h1⟩ | ⟨n', x', y', h1, h2, _, h4⟩
          · have := h1 _ _ hb
            have := N.old _ _ (hz n x hx)
            omega
          · rw [hb] at h2
            injection h2 with h2
            injection h2 with h2 _
            subst h2
            have hx' : look bx0 n = some x := hx
            rw [show look bx0 n = none from h4] at hx'
            cases hx'
        · intro w' E' u bx' rw' hS' hu hext hb hal hrw hra hβ hν
          exact .inl ⟨E', bx', rw', hI.next hok N NR him ho' hnl' hed' (T.dst i o (Nat.zero_le _) (by omega) ho') (fun k => hset l i k hl hil) hS' hu hext hb hal hrw hra hβ hν⟩
      · refine hstepB l a w i o hl ho' him hnl hed' (toB l a w E bx rw hI (fun k hk => ?_))
        have hkl : ops[k]? = some ops[k] := List.getElem?_eq_getElem (by omega)
        have hr := ((drawOk_spec hok ho').2 k _ (by omega) hkl).2 (by omega)
        exact hr.listed hI.closed (fun q hq => by rw [ho'] at hq; injection hq with hq; subst hq; exact hed')
    · rcases Nat.lt_or_ge i m with him | him
      · obtain ⟨j, _, _, hmj, hlj, _⟩ := hB
        have := (hlj i).2 (by omega)
        rw [hnl] at this
        cases this
      · exact hstepB l a w i o hl ho' him hnl hed' hB
  · intro l a w hl hD hall'
    have hB : ∃ j s E, m ≤ j ∧ (∀ k, l.getD k false = true ↔ k < j) ∧ lexK C nt mu ops (ops.drop j) s K ∧ Sat C nt s B ok0 w0 a w E := by
      rcases hD with ⟨E, bx, rw, hI⟩ | hB
      · exact toB l a w E bx rw hI (fun k hk => hall' k (by simp; omega))
      · exact hB
    obtain ⟨j, s, E, _, hlj, hk, hSs⟩ := hB
    have hj : ops.length ≤ j := by
      rcases Nat.lt_or_ge j ops.length with h1 | h1
      · have := (hlj j).1 (hall' j (by simpa using h1))
        omega
      · exact h1
    rw [List.drop_eq_nil_of_le hj] at hk
    exact hQ s a w E hk hSs
  · left
    have hb : Below w.heap.size w { w with drawn := w.drawn + 1 } := ⟨rfl, rfl, rfl, Nat.le_refl _, fun _ _ => rfl⟩
    have hS3 := ((hS2.grow hb).less (fr := []) (bx := s2.bx) (fun t v hv => by cases hv) (fun n x hx => hx))
    refine ⟨_, s2.bx, s2.rw, fun k hk => ?_, fun k q hk => ?_, Sat.raise hS3 (Nat.le_add_right _ _), fun n x hx _ => hx, fun i n x hi => ?_, fun i hi hn => (hS2.fresh (s2.nx + i) (by omega)).1, fun n x hx => hx, fun i n x hi => ?_, fun i hi hn => (hS2.fresh (s2.nx + i) (by omega)).2, fun i o d hi => ?_, fun t x hx _ => ?_⟩
    · simp [Array.getD] at hk
    · simp [Array.getD] at hk
    · simp [Array.getD] at hi
    · simp [Array.getD] at hi
    · simp [Array.getD] at hi
    · exact ((hS2.grow hb).fr t x hx).2

theorem AWp.draw {C : Cx} {nt : Nat} {s : AS} {Q : Out → AS → Prop} (hC : C.Good) {mu : List Nat} {ops : List Oper} {id : Nat} (h : drawK C nt mu ops s (Q .normal)) : AWp C nt (.region id ops.toArray true) Q s :=
  ⟨fun F n hF B ok0 w0 a w E R hS hR => draw_region hC hF h hS fun s' a' w' E' hk hS' => hR .normal s' a' w' E' hk hS'⟩
end Go.Proofs.Ab
end
section
/- The code of a body, piece by piece; a call's contract out of its body. -/
set_option linter.unusedVariables false
set_option linter.unusedSimpArgs false
namespace Go.Proofs.Ab
open Go Go.RowKit

section
variable {P : Program} {b : Frame} {a : Act} {k : List Item} {cs : List Frame} {w : World}
theorem stepR_scope {c : Code} : step P (lone (b.atR a (.code (.scope c) :: k)) cs w) = .next (lone (b.atR a (.code c :: .inScope c :: k)) cs w) :=
  step_lone_go (by simp [stepG, stepG.exec, Frame.atR])
theorem stepR_inScope {c : Code} : step P (lone (b.atR a (.inScope c :: k)) cs w) = .next (lone (b.atR a k) cs w) :=
  step_lone_go (by simp [stepG, stepG.exec, Frame.atR])
theorem wpIn_scope {F : Fence} {n : Nat} {Q : Exit → Act → World → Prop} {c : Code} (h : c.wpIn F n P (Exit.noGoto Q) a w) : (Code.scope c).wpIn F n P Q a w := by
  intro b k cs hro hb hr
  have h0 : (lone (b.atR a (.code (.scope c) :: k)) cs w).fenced P F := fenced_calm hb hr rfl
  obtain ⟨e, a₁, w₁, hq, harr⟩ := h b (.inScope c :: k) cs hro hb hr
  cases e with
  | normal => exact ⟨.normal, a₁, w₁, hq, .head h0 stepR_scope (StepsIn.trans harr (.one (fenced_calm hb hr rfl) stepR_inScope))⟩
  | exit id =>
    have hx : exitTo id (.inScope c :: k) = exitTo id k := by simp [exitTo]
    exact ⟨_, a₁, w₁, hq, fun k' hk => .head h0 stepR_scope (harr.1 k' (by rw [hx]; exact hk)),
      fun hr' hk => let ⟨k₁, h1, h2⟩ := harr.2 hr' (by rw [hx]; exact hk); ⟨k₁, h1, .head h0 stepR_scope h2⟩⟩
  | goto l => exact hq.elim
  | ret => exact ⟨_, a₁, w₁, hq, .of_steps (.one h0 stepR_scope) harr⟩
  | panic ch => exact ⟨_, a₁, w₁, hq, .of_steps (.one h0 stepR_scope) harr⟩
  | outgrown => exact ⟨_, a₁, w₁, hq, .of_steps (.one h0 stepR_scope) harr⟩
end

section
variable {C : Cx} {nt : Nat} {s : AS} {Q : Out → AS → Prop}
theorem AWp.label {l : Nat} (h : Q .normal s) : AWp C nt (.label l) Q s := ⟨fun F n hF B ok0 w0 a w E R hS hR => wpIn_label (hR .normal s a w E h hS)⟩
theorem AWp.scope {c : Code} (h : AWp C nt c Q s) : AWp C nt (.scope c) Q s :=
  ⟨fun F n hF B ok0 w0 a w E R hS hR => wpIn_scope (h.wp F n hF B ok0 w0 a w E _ hS fun e s' a' w' E' hq hS' => by
    cases e with
    | normal => exact hR .normal s' a' w' E' hq hS'
    | ret => exact hR .ret s' a' w' E' hq hS'
    | exit i => exact hR (.exit i) s' a' w' E' hq hS')⟩
end

/-- Where the evaluation of the code waits: a loop, and what is not told here. -/
structure SCode (C : Cx) (nt : Nat) (c : Code) (Q : Out → AS → Prop) (s : AS) : Prop where
  h : AWp C nt c Q s

def codeK (C : Cx) (nt : Nat) (mu : List Nat) : Code → AS → (Out → AS → Prop) → Prop
  | .skip, s, Q => Q .normal s
  | .region _ ⟨ops⟩ true, s, Q => drawK C nt mu ops s (Q .normal)
  | .region _ ⟨ops⟩ false, s, Q => lexK C nt mu ops ops s (Q .normal)
  | .seq c d, s, Q => codeK C nt mu c s fun e s' => match e with
    | .normal => codeK C nt mu d s' Q
    | e => Q e s'
  | .cond A c d, s, Q => operK C s A fun v => match v with
    | .p (.v (.bool true)) => codeK C nt mu c s Q
    | .p (.v (.bool false)) => codeK C nt mu d s Q
    | _ => False
  | .block id c, s, Q => codeK C nt mu c s fun e s' => match e with
    | .exit i => bif Nat.beq i id then Q .normal s' else Q (.exit i) s'
    | e => Q e s'
  | .exit id, s, Q => Q (.exit id) s
  | .ret, s, Q => Q .ret s
  | .label _, s, Q => Q .normal s
  | .scope c, s, Q => codeK C nt mu c s Q
  | c, s, Q => SCode C nt c Q s

theorem codeK_sound {C : Cx} {nt : Nat} (hC : C.Good) {mu : List Nat} : ∀ {c : Code} {s : AS} {Q : Out → AS → Prop}, codeK C nt mu c s Q → AWp C nt c Q s := by
  intro c
  induction c with
  | skip => exact fun h => .skip h
  | region id ops d =>
    obtain ⟨ops⟩ := ops
    cases d with
    | true => exact fun h => .draw hC h
    | false => exact fun h => .lex hC h
  | seq c d ihc ihd => exact fun h => .seq ((ihc h).mono fun e s' hq => by
      cases e with
      | normal => exact ihd hq
      | ret => exact hq
      | exit i => exact hq)
  | cond A c d ihc ihd =>
    intro s Q h
    obtain ⟨v, h, hv⟩ := operK_sound (nt := nt) h
    split at h
    · exact ⟨fun F n hF B ok0 w0 a w E R hS hR => wpIn_cond_true (v_inv (hv hS)) ((ihc h).wp F n hF B ok0 w0 a w E R hS hR)⟩
    · exact ⟨fun F n hF B ok0 w0 a w E R hS hR => wpIn_cond_false (v_inv (hv hS)) ((ihd h).wp F n hF B ok0 w0 a w E R hS hR)⟩
    · exact h.elim
  | block id c ih => exact fun h => .block ((ih h).mono fun e s' hq => hq)
  | exit id => exact fun h => .exit h
  | ret => exact fun h => .ret h
  | loop c ih => exact fun h => h.h
  | rangeFunc f ps c d _ _ => exact fun h => h.h
  | scope c ih => exact fun h => .scope (ih h)
  | label l => exact fun h => .label h
  | goto l => exact fun h => h.h
  | refuse w => exact fun h => h.h

/-! ### The way out -/
def resOps : List ResultVar → List Operand
  | [] => []
  | .tmp t :: r => .tmp t :: resOps r
  | .cell _ _ :: r => resOps r
/-- The results. -/
def resK (C : Cx) (s : AS) : List ResultVar → (List PV → Prop) → Prop
  | [], k => k []
  | .tmp t :: r, k => lookK s.fr t fun x => match x with
    | .p x => resK C s r fun xs => k (x :: xs)
    | _ => False
  | .cell a t :: r, k => lookK s.fr a fun x => placeK s x fun cs => lookK C.tab t fun ti => loadK ti cs fun y => match y with
    | .p y => resK C s r fun xs => k (y :: xs)
    | _ => False
structure SEnd (x v : PV) : Prop where
  h : PLe x v
def Ob.isDfr : Ob → Bool
  | .dfr _ => true
  | _ => false
/-- The loops' marks are taken up when the frame is left. -/
def leaveK : List Nat → List (Nat × Ob) → (List (Nat × Ob) → Prop) → Prop
  | [], ob, K => K ob
  | g :: r, ob, K => nameK Ob.isDfr ob fun n => lookK ob n fun x => match x with
    | .dfr g' => SAnd (g' = g) (strikeK ob n fun ob' => leaveK r ob' K)
    | _ => False
def leaveS (s : AS) (K : AS → Prop) : Prop := match s with | ⟨f, b, r, n, v, o, d⟩ => leaveK d o fun o' => K ⟨f, b, r, n, v, o', d⟩
theorem leaveK_sound {C : Cx} {nt : Nat} {F : Fence} {m : Nat} {fn : Func} {tmps : Array Value} {R : Ending → World → Prop} {s : AS} {B : Nat} {ok0 : Base} {w0 : World} {a : Act} {E : Env} : ∀ {df : List Nat} {ob : List (Nat × Ob)} {K : List (Nat × Ob) → Prop} {w : World}, leaveK df ob K →
    Sat C nt { s with ob := ob } B ok0 w0 a w E → (∀ ob' w', K ob' → Sat C nt { s with ob := ob' } B ok0 w0 a w' E → ∃ v, (results fn tmps).run C.P w' = .ok v w' ∧ R (.returned v) w') →
    LeavesInM F m C.P fn tmps R (df.map fun g => ⟨.collected g, #[]⟩) .returning w
  | [], ob, K, w, h, hS, hk => hk ob w h hS
  | g :: r, ob, K, w, h, hS, hk => by
    obtain ⟨n, h2⟩ := nameK_sound h
    clear h
    obtain ⟨x, hx, h3⟩ := lookK_sound h2
    clear h2
    split at h3
    case h_2 => exact h3.elim
    rename_i g'
    obtain ⟨e, h4⟩ := h3
    subst e
    obtain ⟨ob', h, hst⟩ := strikeK_sound h4
    obtain ⟨_, _, z, hz, hzc, hzi⟩ := hS.mem.ob n _ hx
    have hz' : w.heap[g']? = some (.deferred (some [])) := by rw [← show z = .deferred (some []) from hzi]; exact hz
    refine ⟨by simp, .inl ⟨g', _, rfl, run_takeDeferred hz', ?_⟩⟩
    have hS' := hS.setOb (x := .dfr g') (o := .deferred none) hx (ob' := ob') (fun y hy => absurd rfl (hst n y hy).2) (fun y hy => absurd rfl (hst n y hy).2) (fun k hk y hy => (hst k y hy).1)
    exact leaveK_sound (s := s) h hS' hk
def endK (C : Cx) (rs : List ResultVar) (s : AS) (v : PV) : Prop :=
  sealOpsK s (resOps rs) fun s1 => freezeOpsK s1 (resOps rs) fun s2 => leaveS s2 fun s2 => resK C s2 rs fun xs => match xs with
    | [x] => SEnd x v
    | xs => SEnd (.tup xs) v

def resOne (tmps : Array Value) : ResultVar → Sem Value
  | .tmp t => pure (tmps.getD t undef)
  | .cell a t => do loadVar t (← asAddr (tmps.getD a undef))
def Out1 (P : Program) (tmps : Array Value) (w : World) : List ResultVar → List Value → Prop
  | [], [] => True
  | r :: rs, v :: vs => (resOne tmps r).run P w = .ok v w ∧ Out1 P tmps w rs vs
  | _, _ => False
theorem resK_sound {C : Cx} {nt : Nat} (hC : C.Good) {s : AS} : ∀ {rs : List ResultVar} {k : List PV → Prop}, resK C s rs k → ∃ xs, k xs ∧ xs.length = rs.length ∧ ∀ {B ok0 w0 a w E}, Sat C nt s B ok0 w0 a w E → ∃ vs, RepL w E.ok xs vs ∧ Out1 C.P a.tmps w rs vs
  | [], k, h => ⟨[], h, rfl, fun hS => ⟨[], .nil, trivial⟩⟩
  | .tmp t :: rs, k, h => by
    obtain ⟨x, hx, h⟩ := lookK_sound h
    cases x with
    | p x =>
      obtain ⟨xs, hk, hl, hxs⟩ := resK_sound (nt := nt) hC h
      exact ⟨_, hk, by simp [hl], fun hS => let ⟨vs, hr, ho⟩ := hxs hS; ⟨_ :: vs, .cons (hS.fr t _ hx).2 hr, by simp [resOne], ho⟩⟩
    | _ => exact h.elim
  | .cell a t :: rs, k, h => by
    obtain ⟨x, hx, h⟩ := lookK_sound h
    obtain ⟨cs, h, hAt⟩ := placeK_sound h
    obtain ⟨ti, hl, h⟩ := lookK_sound h
    obtain ⟨y, h, hL⟩ := loadK_sound (C := C) (tab_ok hC.tab hl) h
    cases y with
    | p y =>
      obtain ⟨xs, hk, hl, hxs⟩ := resK_sound (nt := nt) hC h
      refine ⟨_, hk, by simp [hl], fun hS => ?_⟩
      obtain ⟨vs, hr, ho⟩ := hxs hS
      obtain ⟨b, off, us, he, hru, hc⟩ := hAt _ _ _ _ hS.mem (hS.fr a _ hx).2
      obtain ⟨u, hrun, hu⟩ := hL _ _ us b off hru hc
      exact ⟨u :: vs, .cons hu hr, by simp [resOne, he, asAddr, hrun], ho⟩
    | _ => exact h.elim

theorem results_run {P : Program} {tmps : Array Value} {w : World} {fn : Func} {rs : List ResultVar} (hr : fn.results = rs.toArray) (hl : rs.length ≤ 4) {vs : List Value} (h : Out1 P tmps w rs vs) :
    (results fn tmps).run P w = .ok (match vs with | [v] => v | vs => .tuple vs.toArray) w := by
  have e : results fn tmps = (do let vs ← fn.results.mapM (resOne tmps); pure (if h : vs.size = 1 then vs[0] else .tuple vs) : Sem Value) := by
    unfold results
    have : ∀ g : ResultVar → Sem Value, (∀ r, g r = resOne tmps r) → (do let vs ← fn.results.mapM g; pure (if h : vs.size = 1 then vs[0] else .tuple vs) : Sem Value) = (do let vs ← fn.results.mapM (resOne tmps); pure (if h : vs.size = 1 then vs[0] else .tuple vs) : Sem Value) := fun g hg => by rw [show g = resOne tmps from funext hg]
    exact this _ (fun r => by cases r <;> rfl)
  rw [e, hr]
  match rs, vs, h, hl with
  | [], [], _, _ => simp
  | [r], [v], ⟨h1, _⟩, _ => simp [h1]
  | [r, r2], [v, v2], ⟨h1, h2, _⟩, _ => simp [h1, h2]
  | [r, r2, r3], [v, v2, v3], ⟨h1, h2, h3, _⟩, _ => simp [h1, h2, h3]
  | [r, r2, r3, r4], [v, v2, v3, v4], ⟨h1, h2, h3, h4, _⟩, _ => simp [h1, h2, h3, h4]
  | _ :: _ :: _ :: _ :: _ :: _, _, _, hl => simp only [List.length_cons] at hl; omega

def initFr : Nat → List PV → List (Nat × SV)
  | _, [] => []
  | i, x :: xs => (i, .p x) :: initFr (i + 1) xs
theorem initFr_look : ∀ {xs : List PV} {i t : Nat} {v : SV}, look (initFr i xs) t = some v → ∃ j x, t = i + j ∧ xs[j]? = some x ∧ v = .p x
  | [], i, t, v, h => by cases h
  | x :: xs, i, t, v, h => by
    unfold initFr at h
    by_cases e : i = t
    · subst e
      rw [look_cons_self] at h
      injection h with h
      exact ⟨0, x, rfl, rfl, h.symm⟩
    · rw [look_cons_ne e] at h
      obtain ⟨j, y, h1, h2, h3⟩ := initFr_look h
      exact ⟨j + 1, y, by omega, by simpa using h2, h3⟩
def initS (xs : List PV) : AS := ⟨initFr 0 xs, [], [], 0, [], [], []⟩

/-- **A CONTRACT**, out of the body. -/
theorem APure.of_body {C : Cx} (hC : C.Good) {f : FuncId} {fn : Func} {c : Code} {rs : List ResultVar} {nt : Nat} (mu : List Nat) {xs : List PV} {v : PV} (hf : C.P.funcs[f]? = some fn) (hn : (fn.name == "runtime.NumGoroutine") = false) (hb : fn.body = some c)
    (hnt : fn.ntmps = nt) (hx : Nat.ble xs.length nt = true) (hrs : fn.results = rs.toArray) (hl : Nat.ble rs.length 4 = true)
    (h : codeK C nt mu c (initS xs) (fun e s => match e with | .exit _ => False | _ => endK C rs s v)) : APure C f xs v := by
  refine ⟨⟨fn, c, hf, hn, hb⟩, fun w ok us hlt hg hr => ?_⟩
  refine (callsIn_wide (n := 0)).1 (callsIn_of_wp_marks hf hb trivial ?_)
  have hxl : us.length ≤ nt := by rw [hr.1]; exact Nat.le_of_ble_eq_true hx
  have hS : Sat C nt (initS xs) w.heap.size ⟨ok, fun _ => undef⟩ w { tmps := us.toArray ++ Array.replicate (fn.ntmps - us.toArray.size) undef, defers := [] } w ⟨ok, fun _ => none, fun _ => none⟩ := by
    refine ⟨rfl, by simp [hnt]; omega, fun t v ht => ?_, ⟨fun n T cs hn => (by cases hn), fun n e sz xs hn => (by cases hn), fun n o hn => (by cases hn)⟩, fun n m x y g hn => (by cases hn), fun n m x y g v hn => (by cases hn), fun n m x y g v v' hn => (by cases hn), fun n _ => ⟨rfl, rfl⟩, hlt, fun b hb => .inl hb, fun b hb => hb, rfl, Below.refl _ _, hg, fun t v ht => (by cases ht), ⟨fun n m x y hn => (nomatch hn), fun n m x y hn => (nomatch hn), fun n m x y v hn => (nomatch hn)⟩⟩
    obtain ⟨j, x, rfl, hj, rfl⟩ := initFr_look ht
    have hjl : j < us.length := by rw [hr.1]; exact (List.getElem?_eq_some_iff.1 hj).1
    rw [Nat.zero_add]
    refine ⟨by omega, ?_⟩
    have : (us.toArray ++ Array.replicate (fn.ntmps - us.toArray.size) undef).getD j undef = us[j] := by
      have h1 : j < us.length + (fn.ntmps - us.length) := by omega
      simp [Array.getD, h1, Array.getElem_append, hjl]
    simp only [this]
    exact hr.2 j x us[j] hj (List.getElem?_eq_getElem hjl)
  have hFW : FW C Fence.wide := ⟨fun _ => trivial, rfl, rfl, fun _ => rfl⟩
  refine (codeK_sound hC h).wp Fence.wide 0 hFW _ _ w _ w _ _ hS (fun e s a w' E hq hS' => ?_)
  have fin : endK C rs s v → LeavesInM Fence.wide 0 C.P fn a.tmps (fun e w' => ∃ u, e = .returned u ∧ Below w.heap.size w w' ∧ Rep w' (grow ok w w') v u) a.defers .returning w' := by
    intro hq
    obtain ⟨s1, hq, h1⟩ := sealOpsK_sound (C := C) (nt := nt) hq
    obtain ⟨s2, hq, h2⟩ := freezeOpsK_sound (C := C) (nt := nt) hq
    obtain ⟨E1, hS1⟩ := h1 hS'
    obtain ⟨E2, hS2⟩ := h2 hS1
    rw [hS2.defs]
    refine leaveK_sound (s := s2) (K := fun o' => resK C { s2 with ob := o' } rs fun xs => match xs with
      | [x] => SEnd x v
      | xs => SEnd (.tup xs) v) hq hS2 (fun ob' w' hq hS2 => ?_)
    obtain ⟨ys, hq, hyl, hys⟩ := resK_sound (nt := nt) hC hq
    obtain ⟨vs, hrv, ho⟩ := hys hS2
    refine ⟨_, results_run hrs (Nat.le_of_ble_eq_true hl) ho, _, rfl, hS2.below, ?_⟩
    have hgr : ∀ b, E2.ok b → grow ok w w' b := fun b hb => by
      rcases hS2.ok_from b hb with h | h
      · exact .inl h
      · exact .inr ⟨h, hS2.ok_lt b hb⟩
    have hrv' : RepL w' (grow ok w w') ys vs := hrv.ext hgr (fun _ _ => rfl)
    have hvl := hrv.1
    split at hq
    · rename_i x
      obtain ⟨u, us', rfl, hu, hn⟩ := hrv'.uncons
      obtain rfl := hn.unnil
      exact hq.h _ _ _ hu
    · rename_i hne
      have : Rep w' (grow ok w w') (.tup ys) (.tuple vs.toArray) := .tup ys vs hrv'.1 hrv'.2
      split
      · rename_i u
        obtain ⟨y, rfl⟩ : ∃ y, ys = [y] := List.length_eq_one_iff.1 (by simpa using hvl.symm)
        exact absurd rfl (hne y)
      · exact hq.h _ _ _ this
  cases e with
  | normal => exact fin hq
  | ret => exact fin hq
  | exit i => exact hq.elim

/-! ### A call that is stepped through where it stands -/
def shK (nt : Nat) : List (Nat × SV) → (List (Nat × SV) → Prop) → Prop
  | [], k => k []
  | (t, v) :: r, k => shK nt r fun l => k ((nt + t, v) :: l)
theorem shK_sound {nt : Nat} : ∀ {l : List (Nat × SV)} {k : List (Nat × SV) → Prop}, shK nt l k → ∃ l', k l' ∧ ∀ t v, look l' t = some v → ∃ u, t = nt + u ∧ look l u = some v
  | [], k, h => ⟨[], h, fun t v ht => by cases ht⟩
  | (t, x) :: r, k, h => by
    obtain ⟨l', hk, hl⟩ := shK_sound (l := r) (k := fun l => k ((nt + t, x) :: l)) h
    refine ⟨_, hk, fun t' v ht => ?_⟩
    by_cases e : nt + t = t'
    · subst e
      rw [look_cons_self] at ht
      exact ⟨t, rfl, by rw [look_cons_self]; exact ht⟩
    · rw [look_cons_ne e] at ht
      obtain ⟨u, rfl, hu⟩ := hl t' v ht
      exact ⟨u, rfl, by rw [look_cons_ne (by omega)]; exact hu⟩
def apL : List (Nat × SV) → List (Nat × SV) → (List (Nat × SV) → Prop) → Prop
  | [], d, k => k d
  | c :: cs, d, k => apL cs d fun l => k (c :: l)
theorem apL_sound : ∀ {cs d : List (Nat × SV)} {k : List (Nat × SV) → Prop}, apL cs d k → k (cs ++ d)
  | [], d, k, h => h
  | c :: cs, d, k, h => apL_sound (cs := cs) (d := d) (k := fun l => k (c :: l)) h
theorem look_append {l d : List (Nat × SV)} {t : Nat} {v : SV} (h : look (l ++ d) t = some v) : look l t = some v ∨ look d t = some v := by
  induction l with
  | nil => exact .inr h
  | cons p l ih =>
    obtain ⟨n, x⟩ := p
    by_cases e : n = t
    · subst e
      rw [List.cons_append, look_cons_self] at h
      exact .inl (by rw [look_cons_self]; exact h)
    · rw [List.cons_append, look_cons_ne e] at h
      rw [look_cons_ne e]
      exact ih h
def restoreK (nt : Nat) : List (Nat × SV) → (List (Nat × SV) → List (Nat × SV) → Prop) → Prop
  | [], k => k [] []
  | (t, v) :: r, k => restoreK nt r fun fr sv => bif Nat.blt t nt then k ((t, v) :: fr) sv else k fr ((t - nt, v) :: sv)
theorem restoreK_sound {nt : Nat} : ∀ {l : List (Nat × SV)} {k : List (Nat × SV) → List (Nat × SV) → Prop}, restoreK nt l k → ∃ fr sv, k fr sv ∧ (∀ t v, look fr t = some v → t < nt ∧ look l t = some v) ∧ (∀ t v, look sv t = some v → look l (t + nt) = some v)
  | [], k, h => ⟨[], [], h, fun t v ht => (by cases ht), fun t v ht => (by cases ht)⟩
  | (t, x) :: r, k, h => by
    obtain ⟨fr, sv, hk, hf, hs⟩ := restoreK_sound (l := r) h
    cases hb : Nat.blt t nt with
    | true =>
      simp only [hb, cond_true] at hk
      have htn : t < nt := by simpa [Nat.blt_eq] using hb
      refine ⟨_, _, hk, fun t' v ht => ?_, fun t' v ht => ?_⟩
      · by_cases e : t = t'
        · subst e
          rw [look_cons_self] at ht ⊢
          exact ⟨htn, ht⟩
        · rw [look_cons_ne e] at ht ⊢
          exact hf t' v ht
      · rw [look_cons_ne (by omega)]
        exact hs t' v ht
    | false =>
      simp only [hb, cond_false] at hk
      have htn : ¬ t < nt := fun e => by rw [← Nat.blt_eq] at e; rw [hb] at e; cases e
      refine ⟨_, _, hk, fun t' v ht => ?_, fun t' v ht => ?_⟩
      · obtain ⟨h1, h2⟩ := hf t' v ht
        exact ⟨h1, by rw [look_cons_ne (by omega)]; exact h2⟩
      · by_cases e : t - nt = t'
        · rw [show t = t' + nt by omega, look_cons_self]
          rw [e, look_cons_self] at ht
          exact ht
        · rw [look_cons_ne e] at ht
          rw [look_cons_ne (by omega)]
          exact hs t' v ht
def initSV : Nat → List SV → List (Nat × SV)
  | _, [] => []
  | i, x :: xs => (i, x) :: initSV (i + 1) xs
theorem initSV_look : ∀ {xs : List SV} {i t : Nat} {v : SV}, look (initSV i xs) t = some v → ∃ j, t = i + j ∧ xs[j]? = some v
  | [], i, t, v, h => by cases h
  | x :: xs, i, t, v, h => by
    unfold initSV at h
    by_cases e : i = t
    · subst e
      rw [look_cons_self] at h
      exact ⟨0, rfl, by simpa using h⟩
    · rw [look_cons_ne e] at h
      obtain ⟨j, h1, h2⟩ := initSV_look h
      exact ⟨j + 1, by omega, by simpa using h2⟩
def backK (nt : Nat) (df : List Nat) (s : AS) (v : SV) (K : SV → AS → Prop) : Prop := match s with | ⟨_, b, r, n, sv, o, _⟩ => restoreK nt sv fun fr sv' => K v ⟨fr, b, r, n, sv', o, df⟩
def endI1 (C : Cx) (nt : Nat) (df : List Nat) (rs : List ResultVar) (s : AS) (K : SV → AS → Prop) : Prop :=
  match rs with
  | [.tmp t] => lookK s.fr t fun x => backK nt df s x K
  | rs => resK C s rs fun xs => match xs with
    | [x] => backK nt df s (.p x) K
    | xs => backK nt df s (.p (.tup xs)) K
def endIK (C : Cx) (nt : Nat) (df : List Nat) (rs : List ResultVar) (s : AS) (K : SV → AS → Prop) : Prop :=
  leaveS s fun s => endI1 C nt df rs s K
theorem endIK_inv {C : Cx} {nt : Nat} {df : List Nat} {rs : List ResultVar} {s : AS} {K : SV → AS → Prop} (h : endI1 C nt df rs s K) : (∃ t x, rs = [.tmp t] ∧ look s.fr t = some x ∧ backK nt df s x K) ∨ resK C s rs (fun xs => match xs with
    | [x] => backK nt df s (.p x) K
    | xs => backK nt df s (.p (.tup xs)) K) := by
  unfold endI1 at h
  split at h
  · obtain ⟨x, hx, hk⟩ := lookK_sound h
    exact .inl ⟨_, x, rfl, hx, hk⟩
  · exact .inr h
theorem ACall.inline {C : Cx} (hC : C.Good) {nt : Nat} {s : AS} {f : FuncId} {fn : Func} {c : Code} {rs : List ResultVar} {nt' : Nat} (mu : List Nat) {xs : List SV} {K : SV → AS → Prop} (hf : C.P.funcs[f]? = some fn) (hn : (fn.name == "runtime.NumGoroutine") = false) (hb : fn.body = some c)
    (hnt : fn.ntmps = nt') (hx : Nat.ble xs.length nt' = true) (hrs : fn.results = rs.toArray) (hl : Nat.ble rs.length 4 = true)
    (h : match s with | ⟨fr, b, r, n, sv, o, df⟩ => shK nt sv fun l => apL fr l fun saved => codeK C nt' mu c ⟨initSV 0 xs, b, r, n, saved, o, []⟩ (fun e s2 => match e with | .exit _ => False | _ => endIK C nt df rs s2 K)) : ACall C nt s f xs K := by
  refine ⟨⟨fn, c, hf, hn, hb⟩, fun B ok0 w0 a w E us R hS hr hR => ?_⟩
  obtain ⟨fr, b, r, n, sv, ob, df⟩ := s
  obtain ⟨l, h, hsh⟩ := shK_sound h
  have h := apL_sound h
  refine (callsIn_wide (n := 0)).1 (callsIn_of_wp_marks hf hb trivial ?_)
  have hxl : us.length ≤ nt' := by rw [hr.1]; exact Nat.le_of_ble_eq_true hx
  have hS2 : Sat C nt' ⟨initSV 0 xs, b, r, n, fr ++ l, ob, []⟩ B ⟨ok0.ok, fun t => if t < nt then a.tmps.getD t undef else ok0.sv (t - nt)⟩ w0 { tmps := us.toArray ++ Array.replicate (fn.ntmps - us.toArray.size) undef, defers := [] } w E := by
    refine ⟨rfl, by simp [hnt]; omega, fun t v ht => ?_, ⟨hS.mem.bx, hS.mem.rw, hS.mem.ob⟩, hS.bb, hS.br, hS.rr, hS.fresh, hS.ok_lt, hS.ok_from, hS.ok_all, hS.hB, hS.below, hS.glob, fun t v ht => ?_, hS.od⟩
    · obtain ⟨j, rfl, hj⟩ := initSV_look ht
      have hjl : j < us.length := by rw [hr.1]; exact (List.getElem?_eq_some_iff.1 hj).1
      rw [Nat.zero_add]
      refine ⟨by omega, ?_⟩
      have : (us.toArray ++ Array.replicate (fn.ntmps - us.toArray.size) undef).getD j undef = us[j] := by
        have h1 : j < us.length + (fn.ntmps - us.length) := by omega
        simp [Array.getD, h1, Array.getElem_append, hjl]
      simp only [this]
      exact hr.2 j v us[j] hj (List.getElem?_eq_getElem hjl)
    · rcases look_append ht with h1 | h1
      · obtain ⟨h2, h3⟩ := hS.fr t v h1
        simp only [h2, if_true]
        exact h3
      · obtain ⟨u, rfl, hu⟩ := hsh t v h1
        have e1 : ¬ nt + u < nt := by omega
        have e2 : nt + u - nt = u := by omega
        simp only [e1, if_false, e2]
        exact hS.svs u v hu
  have hFW : FW C Fence.wide := ⟨fun _ => trivial, rfl, rfl, fun _ => rfl⟩
  refine (codeK_sound hC h).wp Fence.wide 0 hFW B _ w0 _ w E _ hS2 (fun e s2 a2 w2 E2 hq hS' => ?_)
  have back : ∀ (s2 : AS) (w2 : World) (v : SV) (u : Value), Sat C nt' s2 B ⟨ok0.ok, fun t => if t < nt then a.tmps.getD t undef else ok0.sv (t - nt)⟩ w0 a2 w2 E2 → SRep w2 E2 v u → backK nt df s2 v K → R u w2 := by
    intro s2 w2 v u hS' hu hk
    obtain ⟨fr2, b2, r2, n2, sv2, ob2, df2⟩ := s2
    obtain ⟨fr', sv', hk, h1, h2⟩ := restoreK_sound hk
    refine hR v _ u w2 E2 hk ?_ hu
    refine ⟨hS.defs, hS.size, fun t v ht => ?_, ⟨hS'.mem.bx, hS'.mem.rw, hS'.mem.ob⟩, hS'.bb, hS'.br, hS'.rr, hS'.fresh, hS'.ok_lt, hS'.ok_from, hS'.ok_all, hS'.hB, hS'.below, hS'.glob, fun t v ht => ?_, hS'.od⟩
    · obtain ⟨h3, h4⟩ := h1 t v ht
      have := hS'.svs t v h4
      simp only [h3, if_true] at this
      exact ⟨h3, this⟩
    · have := hS'.svs (t + nt) v (h2 t v ht)
      have e1 : ¬ t + nt < nt := by omega
      simp only [e1, if_false, Nat.add_sub_cancel] at this
      exact this
  have fin : endIK C nt df rs s2 K → LeavesInM Fence.wide 0 C.P fn a2.tmps (fun e w' => ∃ u, e = .returned u ∧ R u w') a2.defers .returning w2 := by
    intro hq
    rw [hS'.defs]
    refine leaveK_sound (C := C) (nt := nt') (s := s2) (K := fun o' => endI1 C nt df rs { s2 with ob := o' } K) hq hS' (fun ob' w3 hq hS3 => ?_)
    rcases endIK_inv (s := { s2 with ob := ob' }) hq with ⟨t, x, rfl, hx, hk⟩ | hq
    · have hxr := (hS3.fr t x hx).2
      exact ⟨_, results_run hrs (Nat.le_of_ble_eq_true hl) (vs := [a2.tmps.getD t undef]) ⟨by simp [resOne], trivial⟩, _, rfl, back _ _ x _ hS3 hxr hk⟩
    · obtain ⟨ys, hq, hyl, hys⟩ := resK_sound (nt := nt') hC hq
      obtain ⟨vs, hrv, ho⟩ := hys hS3
      refine ⟨_, results_run hrs (Nat.le_of_ble_eq_true hl) ho, _, rfl, ?_⟩
      have hvl := hrv.1
      split at hq
      · rename_i x
        obtain ⟨u, us', rfl, hu, hn⟩ := hrv.uncons
        obtain rfl := hn.unnil
        exact back _ _ (.p x) u hS3 hu hq
      · rename_i hne
        have : Rep w3 E2.ok (.tup ys) (.tuple vs.toArray) := .tup ys vs hrv.1 hrv.2
        split
        · rename_i u
          obtain ⟨y, rfl⟩ : ∃ y, ys = [y] := List.length_eq_one_iff.1 (by simpa using hvl.symm)
          exact absurd rfl (hne y)
        · exact back _ _ (.p (.tup ys)) _ hS3 this hq
  cases e with
  | normal => exact fin hq
  | ret => exact fin hq
  | exit i => exact hq.elim
end Go.Proofs.Ab
end
section
/- The program's types, as far as the walks ask for them. Written by gentab.py. -/
set_option maxRecDepth 100000
namespace Go.Proofs.Ab.Area
open Go Go.RowKit Go.Proofs.Ab
def tab : List (Nat × TI) := [
  (3, ⟨.int .i64, 1, 8, [.int .i64 0]⟩),
  (4, ⟨.bool, 1, 1, [.bool false]⟩),
  (1, ⟨.other, 1, 8, [.nilFunc]⟩),
  (2, ⟨.int .i64, 1, 8, [.int .i64 0]⟩),
  (5, ⟨.int .u8, 1, 1, [.int .u8 0]⟩),
  (9, ⟨.string, 1, 16, [.string ⟨#[]⟩]⟩),
  (6, ⟨.int .u8, 1, 1, [.int .u8 0]⟩),
  (7, ⟨.struct [(0, 2), (1, 3), (2, 4), (3, 6)], 4, 24, [.int .i64 0, .int .i64 0, .bool false, .int .u8 0]⟩),
  (8, ⟨.struct [(0, 2), (1, 3), (2, 4), (3, 6)], 4, 24, [.int .i64 0, .int .i64 0, .bool false, .int .u8 0]⟩),
  (28, ⟨.int .i64, 1, 8, [.int .i64 0]⟩),
  (10, ⟨.string, 1, 16, [.string ⟨#[]⟩]⟩),
  (24, ⟨.struct [(0, 3), (1, 3)], 2, 16, [.int .i64 0, .int .i64 0]⟩),
  (22, ⟨.slice 24, 1, 24, [.slice none 0 0]⟩),
  (11, ⟨.string, 1, 16, [.string ⟨#[]⟩]⟩),
  (13, ⟨.struct [(0, 9), (1, 12)], 2, 24, [.string ⟨#[]⟩, .int .u64 0]⟩),
  (105, ⟨.slice 3, 1, 24, [.slice none 0 0]⟩),
  (12, ⟨.int .u64, 1, 8, [.int .u64 0]⟩),
  (14, ⟨.struct [(0, 9), (1, 12)], 2, 24, [.string ⟨#[]⟩, .int .u64 0]⟩),
  (15, ⟨.other, 1, 8, [.pointer none]⟩),
  (17, ⟨.other, 1, 8, [.pointer none]⟩),
  (16, ⟨.other, 1, 8, [.pointer none]⟩),
  (49, ⟨.slice 9, 1, 24, [.slice none 0 0]⟩),
  (52, ⟨.slice 181, 1, 24, [.slice none 0 0]⟩),
  (18, ⟨.struct [(0, 17)], 1, 8, [.pointer none]⟩),
  (44, ⟨.slice 178, 1, 24, [.slice none 0 0]⟩),
  (20, ⟨.other, 1, 16, [.nilIface]⟩),
  (19, ⟨.struct [(0, 17)], 1, 8, [.pointer none]⟩),
  (21, ⟨.int .i32, 1, 4, [.int .i32 0]⟩),
  (26, ⟨.struct [(0, 24), (2, 24)], 4, 32, [.int .i64 0, .int .i64 0, .int .i64 0, .int .i64 0]⟩),
  (23, ⟨.struct [(0, 3), (1, 3)], 2, 16, [.int .i64 0, .int .i64 0]⟩),
  (104, ⟨.array 3 103, 9, 72, [.int .i64 0, .int .i64 0, .int .i64 0, .int .i64 0, .int .i64 0, .int .i64 0, .int .i64 0, .int .i64 0, .int .i64 0]⟩),
  (25, ⟨.struct [(0, 24), (2, 24)], 4, 32, [.int .i64 0, .int .i64 0, .int .i64 0, .int .i64 0]⟩),
  (102, ⟨.slice 152, 1, 24, [.slice none 0 0]⟩),
  (66, ⟨.slice 91, 1, 24, [.slice none 0 0]⟩),
  (65, ⟨.slice 145, 1, 24, [.slice none 0 0]⟩),
  (35, ⟨.struct [(0, 24), (2, 24)], 4, 32, [.int .i64 0, .int .i64 0, .int .i64 0, .int .i64 0]⟩),
  (27, ⟨.other, 1, 8, [.nilFunc]⟩),
  (30, ⟨.other, 1, 8, [.nilFunc]⟩),
  (45, ⟨.slice 179, 1, 24, [.slice none 0 0]⟩),
  (89, ⟨.struct [(0, 3), (1, 3)], 2, 16, [.int .i64 0, .int .i64 0]⟩),
  (109, ⟨.slice 218, 1, 24, [.slice none 0 0]⟩),
  (91, ⟨.struct [(0, 9), (1, 3), (2, 26), (6, 89)], 8, 72, [.string ⟨#[]⟩, .int .i64 0, .int .i64 0, .int .i64 0, .int .i64 0, .int .i64 0, .int .i64 0, .int .i64 0]⟩),
  (31, ⟨.other, 1, 8, [.nilFunc]⟩),
  (73, ⟨.slice 202, 1, 24, [.slice none 0 0]⟩),
  (37, ⟨.other, 1, 8, [.nilFunc]⟩),
  (39, ⟨.other, 1, 8, [.nilFunc]⟩),
  (34, ⟨.other, 1, 8, [.nilFunc]⟩),
  (40, ⟨.other, 1, 8, [.nilFunc]⟩),
  (33, ⟨.other, 1, 8, [.nilFunc]⟩),
  (38, ⟨.other, 1, 8, [.nilFunc]⟩),
  (95, ⟨.struct [(0, 9), (1, 3), (2, 35), (6, 89)], 8, 72, [.string ⟨#[]⟩, .int .i64 0, .int .i64 0, .int .i64 0, .int .i64 0, .int .i64 0, .int .i64 0, .int .i64 0]⟩),
  (41, ⟨.other, 1, 8, [.nilFunc]⟩),
  (42, ⟨.other, 1, 8, [.nilFunc]⟩),
  (67, ⟨.struct [(0, 65), (1, 66), (2, 3)], 3, 56, [.slice none 0 0, .slice none 0 0, .int .i64 0]⟩),
  (46, ⟨.array 2 3, 2, 16, [.int .i64 0, .int .i64 0]⟩),
  (43, ⟨.other, 1, 8, [.nilFunc]⟩),
  (173, ⟨.slice 28, 1, 24, [.slice none 0 0]⟩),
  (55, ⟨.slice 159, 1, 24, [.slice none 0 0]⟩),
  (75, ⟨.slice 95, 1, 24, [.slice none 0 0]⟩),
  (36, ⟨.other, 1, 8, [.nilFunc]⟩),
  (60, ⟨.other, 1, 8, [.nilFunc]⟩),
  (47, ⟨.other, 1, 8, [.nilFunc]⟩),
  (68, ⟨.struct [(0, 65), (1, 66), (2, 3)], 3, 56, [.slice none 0 0, .slice none 0 0, .int .i64 0]⟩),
  (48, ⟨.other, 1, 8, [.nilFunc]⟩),
  (70, ⟨.slice 147, 1, 24, [.slice none 0 0]⟩),
  (103, ⟨.array 3 3, 3, 24, [.int .i64 0, .int .i64 0, .int .i64 0]⟩),
  (80, ⟨.slice 207, 1, 24, [.slice none 0 0]⟩),
  (56, ⟨.other, 1, 8, [.nilFunc]⟩),
  (291, ⟨.other, 1, 8, [.nilFunc]⟩),
  (58, ⟨.other, 1, 8, [.nilFunc]⟩),
  (357, ⟨.other, 1, 8, [.nilFunc]⟩),
  (181, ⟨.struct [(0, 9), (1, 3), (2, 3), (3, 22)], 4, 56, [.string ⟨#[]⟩, .int .i64 0, .int .i64 0, .slice none 0 0]⟩),
  (63, ⟨.other, 1, 8, [.nilFunc]⟩),
  (61, ⟨.other, 1, 8, [.nilFunc]⟩),
  (178, ⟨.struct [(0, 9), (1, 3), (2, 3), (3, 22)], 4, 56, [.string ⟨#[]⟩, .int .i64 0, .int .i64 0, .slice none 0 0]⟩),
  (51, ⟨.other, 1, 8, [.nilFunc]⟩),
  (244, ⟨.other, 1, 8, [.nilFunc]⟩),
  (62, ⟨.other, 1, 8, [.nilFunc]⟩),
  (59, ⟨.other, 1, 8, [.nilFunc]⟩),
  (54, ⟨.other, 1, 8, [.nilFunc]⟩),
  (57, ⟨.other, 1, 8, [.nilFunc]⟩),
  (205, ⟨.other, 1, 8, [.nilFunc]⟩),
  (84, ⟨.other, 1, 8, [.nilFunc]⟩),
  (53, ⟨.other, 1, 8, [.nilFunc]⟩),
  (156, ⟨.other, 1, 8, [.nilFunc]⟩),
  (112, ⟨.other, 1, 8, [.nilFunc]⟩),
  (87, ⟨.other, 1, 8, [.nilFunc]⟩),
  (202, ⟨.struct [(0, 9), (1, 3), (2, 89)], 4, 40, [.string ⟨#[]⟩, .int .i64 0, .int .i64 0, .int .i64 0]⟩),
  (238, ⟨.other, 1, 8, [.nilFunc]⟩),
  (64, ⟨.other, 1, 8, [.nilFunc]⟩),
  (97, ⟨.other, 1, 8, [.nilFunc]⟩),
  (99, ⟨.other, 1, 8, [.nilFunc]⟩),
  (115, ⟨.other, 1, 8, [.nilFunc]⟩),
  (76, ⟨.other, 1, 8, [.nilFunc]⟩),
  (110, ⟨.other, 1, 8, [.nilFunc]⟩),
  (145, ⟨.struct [(0, 9), (1, 3), (2, 89)], 4, 40, [.string ⟨#[]⟩, .int .i64 0, .int .i64 0, .int .i64 0]⟩),
  (218, ⟨.struct [(0, 9), (1, 3), (2, 3)], 3, 32, [.string ⟨#[]⟩, .int .i64 0, .int .i64 0]⟩),
  (220, ⟨.struct [(0, 218), (3, 3)], 4, 40, [.string ⟨#[]⟩, .int .i64 0, .int .i64 0, .int .i64 0]⟩),
  (93, ⟨.other, 1, 8, [.nilFunc]⟩),
  (88, ⟨.struct [(0, 3), (1, 3)], 2, 16, [.int .i64 0, .int .i64 0]⟩),
  (101, ⟨.other, 1, 8, [.nilFunc]⟩),
  (108, ⟨.other, 1, 8, [.nilFunc]⟩),
  (175, ⟨.other, 1, 8, [.nilFunc]⟩),
  (276, ⟨.other, 1, 8, [.nilFunc]⟩),
  (242, ⟨.other, 1, 8, [.nilFunc]⟩),
  (265, ⟨.other, 1, 8, [.map none]⟩),
  (111, ⟨.other, 1, 8, [.nilFunc]⟩),
  (98, ⟨.other, 1, 8, [.nilFunc]⟩),
  (190, ⟨.other, 1, 8, [.nilFunc]⟩),
  (74, ⟨.other, 1, 8, [.nilFunc]⟩),
  (86, ⟨.other, 1, 8, [.nilFunc]⟩),
  (69, ⟨.other, 1, 8, [.nilFunc]⟩),
  (72, ⟨.other, 1, 8, [.nilFunc]⟩),
  (120, ⟨.other, 1, 8, [.nilFunc]⟩),
  (159, ⟨.struct [(0, 9), (1, 24)], 3, 32, [.string ⟨#[]⟩, .int .i64 0, .int .i64 0]⟩),
  (77, ⟨.other, 1, 8, [.nilFunc]⟩),
  (114, ⟨.other, 1, 8, [.nilFunc]⟩),
  (96, ⟨.other, 1, 8, [.nilFunc]⟩),
  (116, ⟨.other, 1, 8, [.nilFunc]⟩),
  (152, ⟨.struct [(0, 9), (1, 3), (2, 3)], 3, 32, [.string ⟨#[]⟩, .int .i64 0, .int .i64 0]⟩),
  (81, ⟨.other, 1, 8, [.nilFunc]⟩),
  (85, ⟨.other, 1, 8, [.nilFunc]⟩),
  (90, ⟨.struct [(0, 9), (1, 3), (2, 26), (6, 89)], 8, 72, [.string ⟨#[]⟩, .int .i64 0, .int .i64 0, .int .i64 0, .int .i64 0, .int .i64 0, .int .i64 0, .int .i64 0]⟩),
  (147, ⟨.struct [(0, 3), (1, 3), (2, 3)], 3, 24, [.int .i64 0, .int .i64 0, .int .i64 0]⟩),
  (189, ⟨.other, 1, 8, [.nilFunc]⟩),
  (233, ⟨.other, 1, 8, [.nilFunc]⟩),
  (335, ⟨.other, 1, 8, [.nilFunc]⟩),
  (92, ⟨.other, 1, 8, [.nilFunc]⟩),
  (123, ⟨.other, 1, 8, [.nilFunc]⟩),
  (125, ⟨.other, 1, 8, [.nilFunc]⟩),
  (141, ⟨.other, 1, 8, [.nilFunc]⟩),
  (194, ⟨.other, 1, 8, [.nilFunc]⟩),
  (78, ⟨.other, 1, 8, [.nilFunc]⟩),
  (258, ⟨.other, 1, 8, [.nilFunc]⟩),
  (79, ⟨.other, 1, 8, [.nilFunc]⟩),
  (221, ⟨.slice 220, 1, 24, [.slice none 0 0]⟩),
  (83, ⟨.other, 1, 8, [.nilFunc]⟩),
  (134, ⟨.other, 1, 8, [.nilFunc]⟩),
  (215, ⟨.other, 1, 8, [.nilFunc]⟩),
  (295, ⟨.int .i64, 1, 8, [.int .i64 0]⟩),
  (282, ⟨.other, 1, 8, [.pointer none]⟩),
  (325, ⟨.other, 1, 8, [.nilFunc]⟩),
  (314, ⟨.other, 1, 8, [.nilFunc]⟩),
  (82, ⟨.other, 1, 8, [.nilFunc]⟩),
  (113, ⟨.other, 1, 8, [.nilFunc]⟩),
  (119, ⟨.other, 1, 8, [.nilFunc]⟩),
  (122, ⟨.other, 1, 8, [.nilFunc]⟩),
  (126, ⟨.other, 1, 8, [.nilFunc]⟩),
  (166, ⟨.other, 1, 8, [.nilFunc]⟩),
  (345, ⟨.array 16 344, 32, 32, [.int .u8 0, .int .u8 0, .int .u8 0, .int .u8 0, .int .u8 0, .int .u8 0, .int .u8 0, .int .u8 0, .int .u8 0, .int .u8 0, .int .u8 0, .int .u8 0, .int .u8 0, .int .u8 0, .int .u8 0, .int .u8 0, .int .u8 0, .int .u8 0, .int .u8 0, .int .u8 0, .int .u8 0, .int .u8 0, .int .u8 0, .int .u8 0, .int .u8 0, .int .u8 0, .int .u8 0, .int .u8 0, .int .u8 0, .int .u8 0, .int .u8 0, .int .u8 0]⟩),
  (179, ⟨.struct [(0, 9), (1, 24)], 3, 32, [.string ⟨#[]⟩, .int .i64 0, .int .i64 0]⟩),
  (186, ⟨.other, 1, 8, [.nilFunc]⟩),
  (294, ⟨.other, 1, 8, [.nilFunc]⟩),
  (305, ⟨.other, 1, 8, [.nilFunc]⟩),
  (200, ⟨.other, 1, 8, [.nilFunc]⟩),
  (227, ⟨.other, 1, 8, [.nilFunc]⟩),
  (146, ⟨.struct [(0, 3), (1, 3), (2, 3)], 3, 24, [.int .i64 0, .int .i64 0, .int .i64 0]⟩),
  (153, ⟨.other, 1, 8, [.nilFunc]⟩),
  (154, ⟨.other, 1, 8, [.nilFunc]⟩),
  (275, ⟨.other, 1, 8, [.nilFunc]⟩),
  (350, ⟨.struct [(0, 17), (1, 17), (2, 17), (3, 9)], 4, 40, [.pointer none, .pointer none, .pointer none, .string ⟨#[]⟩]⟩),
  (94, ⟨.struct [(0, 9), (1, 3), (2, 35), (6, 89)], 8, 72, [.string ⟨#[]⟩, .int .i64 0, .int .i64 0, .int .i64 0, .int .i64 0, .int .i64 0, .int .i64 0, .int .i64 0]⟩),
  (193, ⟨.other, 1, 8, [.nilFunc]⟩),
  (210, ⟨.other, 1, 8, [.nilFunc]⟩),
  (224, ⟨.other, 1, 8, [.nilFunc]⟩),
  (232, ⟨.slice 103, 1, 24, [.slice none 0 0]⟩),
  (318, ⟨.other, 1, 8, [.nilFunc]⟩),
  (118, ⟨.other, 1, 8, [.nilFunc]⟩),
  (136, ⟨.other, 1, 8, [.nilFunc]⟩),
  (195, ⟨.other, 1, 8, [.nilFunc]⟩),
  (249, ⟨.other, 1, 8, [.pointer none]⟩),
  (106, ⟨.other, 1, 8, [.nilFunc]⟩),
  (243, ⟨.other, 1, 8, [.nilFunc]⟩),
  (260, ⟨.struct [(0, 258)], 1, 8, [.nilFunc]⟩),
  (271, ⟨.other, 1, 8, [.nilFunc]⟩),
  (321, ⟨.other, 1, 8, [.nilFunc]⟩),
  (167, ⟨.other, 1, 8, [.nilFunc]⟩),
  (222, ⟨.other, 1, 8, [.nilFunc]⟩),
  (117, ⟨.other, 1, 8, [.nilFunc]⟩),
  (252, ⟨.struct [(0, 49), (1, 4)], 2, 32, [.slice none 0 0, .bool false]⟩),
  (306, ⟨.other, 1, 8, [.nilFunc]⟩),
  (285, ⟨.struct [(0, 282), (1, 283)], 2, 32, [.pointer none, .slice none 0 0]⟩),
  (340, ⟨.array 20 304, 20, 160, [.int .u64 0, .int .u64 0, .int .u64 0, .int .u64 0, .int .u64 0, .int .u64 0, .int .u64 0, .int .u64 0, .int .u64 0, .int .u64 0, .int .u64 0, .int .u64 0, .int .u64 0, .int .u64 0, .int .u64 0, .int .u64 0, .int .u64 0, .int .u64 0, .int .u64 0, .int .u64 0]⟩),
  (163, ⟨.other, 1, 8, [.nilFunc]⟩),
  (283, ⟨.slice 5, 1, 24, [.slice none 0 0]⟩),
  (290, ⟨.other, 1, 8, [.nilFunc]⟩),
  (230, ⟨.other, 1, 8, [.nilFunc]⟩),
  (239, ⟨.other, 1, 8, [.nilFunc]⟩),
  (248, ⟨.other, 1, 8, [.nilFunc]⟩),
  (302, ⟨.int .u32, 1, 4, [.int .u32 0]⟩),
  (304, ⟨.int .u64, 1, 8, [.int .u64 0]⟩),
  (180, ⟨.other, 1, 8, [.nilFunc]⟩),
  (310, ⟨.other, 1, 8, [.nilFunc]⟩),
  (316, ⟨.other, 1, 8, [.nilFunc]⟩),
  (324, ⟨.other, 1, 8, [.pointer none]⟩),
  (333, ⟨.other, 1, 8, [.nilFunc]⟩),
  (127, ⟨.other, 1, 8, [.nilFunc]⟩),
  (137, ⟨.other, 1, 8, [.nilFunc]⟩),
  (148, ⟨.other, 1, 8, [.nilFunc]⟩),
  (165, ⟨.other, 1, 8, [.nilFunc]⟩),
  (223, ⟨.other, 1, 8, [.nilFunc]⟩),
  (237, ⟨.other, 1, 8, [.nilFunc]⟩),
  (274, ⟨.int .u64, 1, 8, [.int .u64 0]⟩),
  (309, ⟨.other, 1, 8, [.pointer none]⟩),
  (185, ⟨.other, 1, 8, [.nilFunc]⟩),
  (253, ⟨.other, 1, 8, [.nilFunc]⟩),
  (298, ⟨.other, 1, 8, [.nilFunc]⟩),
  (308, ⟨.other, 1, 8, [.nilFunc]⟩),
  (317, ⟨.other, 1, 8, [.pointer none]⟩),
  (352, ⟨.array 0 16, 0, 0, []⟩),
  (211, ⟨.other, 1, 8, [.nilFunc]⟩),
  (213, ⟨.other, 1, 8, [.nilFunc]⟩),
  (214, ⟨.other, 1, 8, [.nilFunc]⟩),
  (231, ⟨.other, 1, 8, [.nilFunc]⟩),
  (261, ⟨.array 4 260, 4, 32, [.nilFunc, .nilFunc, .nilFunc, .nilFunc]⟩),
  (313, ⟨.int .u64, 1, 8, [.int .u64 0]⟩),
  (320, ⟨.other, 1, 8, [.nilFunc]⟩),
  (322, ⟨.other, 1, 8, [.nilFunc]⟩),
  (360, ⟨.struct [(0, 12), (1, 12), (2, 302), (3, 355), (4, 5), (5, 5), (6, 356), (7, 357), (8, 309), (9, 358), (10, 359)], 11, 48, [.int .u64 0, .int .u64 0, .int .u32 0, .int .u8 0, .int .u8 0, .int .u8 0, .int .u8 0, .nilFunc, .pointer none, .int .i32 0, .int .i32 0]⟩),
  (157, ⟨.other, 1, 8, [.nilFunc]⟩),
  (177, ⟨.struct [(0, 9), (1, 3), (2, 3), (3, 22)], 4, 56, [.string ⟨#[]⟩, .int .i64 0, .int .i64 0, .slice none 0 0]⟩),
  (256, ⟨.other, 1, 8, [.nilFunc]⟩),
  (257, ⟨.other, 1, 8, [.nilFunc]⟩),
  (259, ⟨.struct [(0, 258)], 1, 8, [.nilFunc]⟩),
  (269, ⟨.other, 1, 8, [.nilFunc]⟩),
  (272, ⟨.other, 1, 8, [.nilFunc]⟩),
  (280, ⟨.other, 1, 8, [.nilFunc]⟩),
  (281, ⟨.other, 1, 8, [.nilFunc]⟩),
  (299, ⟨.other, 1, 8, [.nilFunc]⟩),
  (315, ⟨.other, 1, 8, [.nilFunc]⟩),
  (323, ⟨.other, 1, 8, [.nilFunc]⟩),
  (361, ⟨.struct [(0, 12), (1, 12), (2, 302), (3, 355), (4, 5), (5, 5), (6, 356), (7, 357), (8, 309), (9, 358), (10, 359)], 11, 48, [.int .u64 0, .int .u64 0, .int .u32 0, .int .u8 0, .int .u8 0, .int .u8 0, .int .u8 0, .nilFunc, .pointer none, .int .i32 0, .int .i32 0]⟩),
  (151, ⟨.struct [(0, 9), (1, 3), (2, 3)], 3, 32, [.string ⟨#[]⟩, .int .i64 0, .int .i64 0]⟩),
  (161, ⟨.other, 1, 8, [.nilFunc]⟩),
  (201, ⟨.other, 1, 8, [.nilFunc]⟩),
  (245, ⟨.other, 1, 8, [.nilFunc]⟩),
  (277, ⟨.other, 1, 8, [.nilFunc]⟩),
  (332, ⟨.other, 1, 8, [.nilFunc]⟩),
  (142, ⟨.other, 1, 8, [.nilFunc]⟩),
  (162, ⟨.other, 1, 8, [.nilFunc]⟩),
  (164, ⟨.other, 1, 8, [.nilFunc]⟩),
  (196, ⟨.other, 1, 8, [.nilFunc]⟩),
  (207, ⟨.struct [(0, 3), (1, 3), (2, 3)], 3, 24, [.int .i64 0, .int .i64 0, .int .i64 0]⟩),
  (219, ⟨.struct [(0, 218), (3, 3)], 4, 40, [.string ⟨#[]⟩, .int .i64 0, .int .i64 0, .int .i64 0]⟩),
  (236, ⟨.other, 1, 8, [.nilFunc]⟩),
  (264, ⟨.other, 1, 8, [.nilFunc]⟩),
  (351, ⟨.struct [(0, 17), (1, 17), (2, 17), (3, 9)], 4, 40, [.pointer none, .pointer none, .pointer none, .string ⟨#[]⟩]⟩),
  (129, ⟨.other, 1, 8, [.nilFunc]⟩),
  (139, ⟨.int .i16, 1, 2, [.int .i16 0]⟩),
  (170, ⟨.other, 1, 8, [.nilFunc]⟩),
  (199, ⟨.other, 1, 8, [.nilFunc]⟩),
  (203, ⟨.other, 1, 8, [.nilFunc]⟩),
  (300, ⟨.other, 1, 8, [.nilFunc]⟩),
  (307, ⟨.other, 1, 8, [.nilFunc]⟩),
  (327, ⟨.other, 1, 8, [.nilFunc]⟩),
  (330, ⟨.other, 1, 8, [.pointer none]⟩),
  (140, ⟨.array 3 139, 3, 6, [.int .i16 0, .int .i16 0, .int .i16 0]⟩),
  (149, ⟨.other, 1, 8, [.nilFunc]⟩),
  (150, ⟨.array 3 5, 3, 3, [.int .u8 0, .int .u8 0, .int .u8 0]⟩),
  (158, ⟨.struct [(0, 9), (1, 24)], 3, 32, [.string ⟨#[]⟩, .int .i64 0, .int .i64 0]⟩),
  (160, ⟨.other, 1, 8, [.nilFunc]⟩),
  (187, ⟨.other, 1, 8, [.nilFunc]⟩),
  (208, ⟨.other, 1, 8, [.nilFunc]⟩),
  (246, ⟨.other, 1, 8, [.nilFunc]⟩),
  (301, ⟨.other, 1, 8, [.nilFunc]⟩),
  (344, ⟨.struct [(0, 5), (1, 5)], 2, 2, [.int .u8 0, .int .u8 0]⟩),
  (131, ⟨.other, 1, 8, [.nilFunc]⟩),
  (135, ⟨.other, 1, 8, [.nilFunc]⟩),
  (143, ⟨.other, 1, 8, [.nilFunc]⟩),
  (241, ⟨.other, 1, 8, [.nilFunc]⟩),
  (270, ⟨.other, 1, 8, [.nilFunc]⟩),
  (287, ⟨.other, 1, 16, [.nilIface]⟩),
  (144, ⟨.struct [(0, 9), (1, 3), (2, 89)], 4, 40, [.string ⟨#[]⟩, .int .i64 0, .int .i64 0, .int .i64 0]⟩),
  (176, ⟨.other, 1, 8, [.nilFunc]⟩),
  (204, ⟨.other, 1, 8, [.nilFunc]⟩),
  (225, ⟨.other, 1, 8, [.nilFunc]⟩),
  (240, ⟨.other, 1, 8, [.nilFunc]⟩),
  (286, ⟨.other, 1, 8, [.nilFunc]⟩),
  (348, ⟨.array 32 5, 32, 32, [.int .u8 0, .int .u8 0, .int .u8 0, .int .u8 0, .int .u8 0, .int .u8 0, .int .u8 0, .int .u8 0, .int .u8 0, .int .u8 0, .int .u8 0, .int .u8 0, .int .u8 0, .int .u8 0, .int .u8 0, .int .u8 0, .int .u8 0, .int .u8 0, .int .u8 0, .int .u8 0, .int .u8 0, .int .u8 0, .int .u8 0, .int .u8 0, .int .u8 0, .int .u8 0, .int .u8 0, .int .u8 0, .int .u8 0, .int .u8 0, .int .u8 0, .int .u8 0]⟩),
  (356, ⟨.int .u8, 1, 1, [.int .u8 0]⟩),
  (228, ⟨.other, 1, 8, [.nilFunc]⟩),
  (229, ⟨.other, 1, 8, [.nilFunc]⟩),
  (254, ⟨.other, 1, 8, [.nilFunc]⟩),
  (263, ⟨.other, 1, 8, [.nilFunc]⟩),
  (337, ⟨.other, 1, 8, [.nilFunc]⟩),
  (132, ⟨.other, 1, 8, [.nilFunc]⟩),
  (191, ⟨.other, 1, 8, [.nilFunc]⟩),
  (250, ⟨.other, 1, 8, [.nilFunc]⟩),
  (334, ⟨.array 24 5, 24, 24, [.int .u8 0, .int .u8 0, .int .u8 0, .int .u8 0, .int .u8 0, .int .u8 0, .int .u8 0, .int .u8 0, .int .u8 0, .int .u8 0, .int .u8 0, .int .u8 0, .int .u8 0, .int .u8 0, .int .u8 0, .int .u8 0, .int .u8 0, .int .u8 0, .int .u8 0, .int .u8 0, .int .u8 0, .int .u8 0, .int .u8 0, .int .u8 0]⟩),
  (353, ⟨.struct [(0, 352)], 0, 0, []⟩),
  (355, ⟨.int .u8, 1, 1, [.int .u8 0]⟩),
  (138, ⟨.other, 1, 8, [.nilFunc]⟩),
  (209, ⟨.other, 1, 8, [.nilFunc]⟩),
  (216, ⟨.other, 1, 8, [.nilFunc]⟩),
  (297, ⟨.other, 1, 8, [.nilFunc]⟩),
  (184, ⟨.other, 1, 8, [.nilFunc]⟩),
  (198, ⟨.other, 1, 8, [.nilFunc]⟩),
  (212, ⟨.other, 1, 8, [.nilFunc]⟩),
  (234, ⟨.other, 1, 8, [.nilFunc]⟩),
  (266, ⟨.other, 1, 8, [.nilFunc]⟩),
  (268, ⟨.other, 1, 8, [.nilFunc]⟩),
  (279, ⟨.other, 1, 8, [.nilFunc]⟩),
  (288, ⟨.other, 1, 16, [.nilIface]⟩),
  (292, ⟨.other, 1, 8, [.nilFunc]⟩),
  (358, ⟨.int .i32, 1, 4, [.int .i32 0]⟩),
  (155, ⟨.other, 1, 8, [.nilFunc]⟩),
  (168, ⟨.other, 1, 8, [.nilFunc]⟩),
  (169, ⟨.other, 1, 8, [.nilFunc]⟩),
  (206, ⟨.other, 1, 8, [.nilFunc]⟩),
  (235, ⟨.other, 1, 8, [.nilFunc]⟩),
  (172, ⟨.other, 1, 8, [.nilFunc]⟩),
  (188, ⟨.other, 1, 8, [.nilFunc]⟩),
  (197, ⟨.other, 1, 8, [.nilFunc]⟩),
  (217, ⟨.other, 1, 8, [.nilFunc]⟩),
  (226, ⟨.other, 1, 8, [.nilFunc]⟩),
  (251, ⟨.struct [(0, 49), (1, 4)], 2, 32, [.slice none 0 0, .bool false]⟩),
  (278, ⟨.other, 1, 8, [.nilFunc]⟩),
  (293, ⟨.other, 1, 8, [.nilFunc]⟩),
  (319, ⟨.other, 1, 8, [.nilFunc]⟩),
  (326, ⟨.other, 1, 8, [.nilFunc]⟩),
  (329, ⟨.other, 1, 8, [.nilFunc]⟩),
  (343, ⟨.struct [(0, 5), (1, 5)], 2, 2, [.int .u8 0, .int .u8 0]⟩),
  (349, ⟨.array 64 5, 64, 64, [.int .u8 0, .int .u8 0, .int .u8 0, .int .u8 0, .int .u8 0, .int .u8 0, .int .u8 0, .int .u8 0, .int .u8 0, .int .u8 0, .int .u8 0, .int .u8 0, .int .u8 0, .int .u8 0, .int .u8 0, .int .u8 0, .int .u8 0, .int .u8 0, .int .u8 0, .int .u8 0, .int .u8 0, .int .u8 0, .int .u8 0, .int .u8 0, .int .u8 0, .int .u8 0, .int .u8 0, .int .u8 0, .int .u8 0, .int .u8 0, .int .u8 0, .int .u8 0, .int .u8 0, .int .u8 0, .int .u8 0, .int .u8 0, .int .u8 0, .int .u8 0, .int .u8 0, .int .u8 0, .int .u8 0, .int .u8 0, .int .u8 0, .int .u8 0, .int .u8 0, .int .u8 0, .int .u8 0, .int .u8 0, .int .u8 0, .int .u8 0, .int .u8 0, .int .u8 0, .int .u8 0, .int .u8 0, .int .u8 0, .int .u8 0, .int .u8 0, .int .u8 0, .int .u8 0, .int .u8 0, .int .u8 0, .int .u8 0, .int .u8 0, .int .u8 0]⟩),
  (354, ⟨.struct [(0, 352)], 0, 0, []⟩),
  (182, ⟨.other, 1, 8, [.nilFunc]⟩),
  (267, ⟨.other, 1, 8, [.nilFunc]⟩),
  (273, ⟨.other, 1, 8, [.nilFunc]⟩),
  (311, ⟨.other, 1, 8, [.nilFunc]⟩),
  (312, ⟨.other, 1, 8, [.nilFunc]⟩),
  (347, ⟨.other, 1, 8, [.nilFunc]⟩),
  (171, ⟨.other, 1, 8, [.nilFunc]⟩),
  (174, ⟨.other, 1, 8, [.nilFunc]⟩),
  (183, ⟨.other, 1, 8, [.nilFunc]⟩),
  (192, ⟨.other, 1, 8, [.nilFunc]⟩),
  (303, ⟨.other, 1, 8, [.nilFunc]⟩),
  (331, ⟨.other, 1, 8, [.nilFunc]⟩),
  (338, ⟨.other, 1, 8, [.nilFunc]⟩),
  (339, ⟨.other, 1, 8, [.nilFunc]⟩),
  (262, ⟨.other, 1, 8, [.nilFunc]⟩),
  (284, ⟨.struct [(0, 282), (1, 283)], 2, 32, [.pointer none, .slice none 0 0]⟩),
  (359, ⟨.int .i32, 1, 4, [.int .i32 0]⟩)]
end Go.Proofs.Ab.Area
end
section
/- Points, cross products, and what a convex polygon's corners do: plain laws. -/
namespace Go.Proofs.Ab.Area
structure Pt where
  x : Int
  y : Int
  deriving DecidableEq
abbrev cr (a b p : Pt) : Int := (b.x - a.x) * (p.y - a.y) - (b.y - a.y) * (p.x - a.x)
theorem cr_cyc (a b c : Pt) : cr a b c = cr b c a := by simp only [cr]; grind
theorem cr_neg (a b c : Pt) : cr a b c = - cr b a c := by simp only [cr]; grind
theorem cr_sum (u o v c : Pt) : cr u o c + cr o v c + cr v u c = cr u o v := by simp only [cr]; grind
/-- What three corners of a triangle say of a line, weighted by a point in it. -/
theorem cr_bary (u o v c d : Pt) : cr o v c * cr c d u + cr v u c * cr c d o + cr u o c * cr c d v = 0 := by simp only [cr]; grind
theorem cr_bary' (u o v c d : Pt) : cr o v c * cr d c u + cr v u c * cr d c o + cr u o c * cr d c v = 0 := by simp only [cr]; grind
/-- On two lines through a corner lies the corner alone. -/
theorem cr_two (b c d w : Pt) (h : cr b c d ≠ 0) (h1 : cr c d w = 0) (h2 : cr b c w = 0) : w = c := by
  have e1 : cr b c d * (w.x - c.x) = cr c d w * (b.x - c.x) + cr b c w * (d.x - c.x) := by simp only [cr]; grind
  have e2 : cr b c d * (w.y - c.y) = cr c d w * (b.y - c.y) + cr b c w * (d.y - c.y) := by simp only [cr]; grind
  rw [h1, h2] at e1 e2
  have z1 : w.x - c.x = 0 := by
    have : cr b c d * (w.x - c.x) = 0 := by rw [e1]; simp
    exact (Int.mul_eq_zero.1 this).resolve_left h
  have z2 : w.y - c.y = 0 := by
    have : cr b c d * (w.y - c.y) = 0 := by rw [e2]; simp
    exact (Int.mul_eq_zero.1 this).resolve_left h
  obtain ⟨wx, wy⟩ := w
  obtain ⟨cx, cy⟩ := c
  simp only at z1 z2
  rw [show wx = cx by omega, show wy = cy by omega]
/-- A corner c that turns to the left, with u, o and v on the left of both its edges, and on the left of u-o and o-v, lies beyond the chord u-v. -/
theorem chord {b c d u o v : Pt} (hc : 0 < cr b c d) (hd : 0 < cr u o v) (h1 : 0 ≤ cr u o c) (h2 : 0 ≤ cr o v c)
    (u1 : 0 ≤ cr b c u) (u2 : 0 ≤ cr c d u) (o1 : 0 ≤ cr b c o) (o2 : 0 ≤ cr c d o) (v1 : 0 ≤ cr b c v) (v2 : 0 ≤ cr c d v) (nu : u ≠ c) (no : o ≠ c) (nv : v ≠ c) : 0 < cr u v c := by
  rcases Int.lt_or_le 0 (cr u v c) with h | h
  · exact h
  exfalso
  have h3 : 0 ≤ cr v u c := by have := cr_neg u v c; omega
  have hs := cr_sum u o v c
  have e1 := cr_bary u o v c d
  have e2 := cr_bary' u o v c b
  have key : ∀ a x b y c z : Int, 0 ≤ a → 0 ≤ x → 0 ≤ b → 0 ≤ y → 0 ≤ c → 0 ≤ z → a * x + b * y + c * z = 0 → a * x = 0 ∧ b * y = 0 ∧ c * z = 0 := by
    intro a x b y c z h1 h2 h3 h4 h5 h6 h
    have p1 := Int.mul_nonneg h1 h2
    have p2 := Int.mul_nonneg h3 h4
    have p3 := Int.mul_nonneg h5 h6
    omega
  obtain ⟨a1, a2, a3⟩ := key _ _ _ _ _ _ h2 u2 h3 o2 h1 v2 e1
  obtain ⟨b1, b2, b3⟩ := key _ _ _ _ _ _ h2 u1 h3 o1 h1 v1 e2
  have hc' : cr b c d ≠ 0 := by omega
  by_cases z1 : cr o v c = 0
  · by_cases z2 : cr v u c = 0
    · by_cases z3 : cr u o c = 0
      · omega
      · exact nv (cr_two b c d v hc' ((Int.mul_eq_zero.1 a3).resolve_left z3) ((Int.mul_eq_zero.1 b3).resolve_left z3))
    · exact no (cr_two b c d o hc' ((Int.mul_eq_zero.1 a2).resolve_left z2) ((Int.mul_eq_zero.1 b2).resolve_left z2))
  · exact nu (cr_two b c d u hc' ((Int.mul_eq_zero.1 a1).resolve_left z1) ((Int.mul_eq_zero.1 b1).resolve_left z1))
/-- A point in the cone at a corner is no further to any side than the corner and its neighbours. -/
theorem cone {a v n q : Pt} (hd : 0 < cr a v n) (h1 : 0 ≤ cr a v q) (h2 : 0 ≤ cr v n q) (f : Int) (g : Int)
    (ha : f * a.x + g * a.y ≤ f * v.x + g * v.y) (hn : f * n.x + g * n.y ≤ f * v.x + g * v.y) : f * q.x + g * q.y ≤ f * v.x + g * v.y := by
  have e : cr a v n * (f * q.x + g * q.y - (f * v.x + g * v.y)) = cr v n q * (f * a.x + g * a.y - (f * v.x + g * v.y)) + cr a v q * (f * n.x + g * n.y - (f * v.x + g * v.y)) := by simp only [cr]; grind
  have p1 : cr v n q * (f * a.x + g * a.y - (f * v.x + g * v.y)) ≤ 0 := Int.mul_nonpos_of_nonneg_of_nonpos h2 (by omega)
  have p2 : cr a v q * (f * n.x + g * n.y - (f * v.x + g * v.y)) ≤ 0 := Int.mul_nonpos_of_nonneg_of_nonpos h1 (by omega)
  rcases Int.lt_or_le (f * v.x + g * v.y) (f * q.x + g * q.y) with h | h
  · have := Int.mul_pos hd (show 0 < f * q.x + g * q.y - (f * v.x + g * v.y) by omega)
    omega
  · exact h
/-- If the four corners of a box are on the right of a line, all of the box is. -/
theorem box_right {a b p : Pt} {x0 y0 x1 y1 : Int} (hx : x0 ≤ p.x ∧ p.x ≤ x1) (hy : y0 ≤ p.y ∧ p.y ≤ y1) (h1 : cr a b ⟨x0, y0⟩ < 0) (h2 : cr a b ⟨x1, y0⟩ < 0) (h3 : cr a b ⟨x1, y1⟩ < 0) (h4 : cr a b ⟨x0, y1⟩ < 0) : cr a b p < 0 := by
  simp only [cr] at *
  rcases Int.le_total 0 (b.x - a.x) with hX | hX
  · have m1 := Int.mul_le_mul_of_nonneg_left (show p.y - a.y ≤ y1 - a.y by omega) hX
    rcases Int.le_total 0 (b.y - a.y) with hY | hY
    · have m2 := Int.mul_le_mul_of_nonneg_left (show x0 - a.x ≤ p.x - a.x by omega) hY
      omega
    · have m2 := Int.mul_le_mul_of_nonpos_left hY (show p.x - a.x ≤ x1 - a.x by omega)
      omega
  · have m1 := Int.mul_le_mul_of_nonpos_left hX (show y0 - a.y ≤ p.y - a.y by omega)
    rcases Int.le_total 0 (b.y - a.y) with hY | hY
    · have m2 := Int.mul_le_mul_of_nonneg_left (show x0 - a.x ≤ p.x - a.x by omega) hY
      omega
    · have m2 := Int.mul_le_mul_of_nonpos_left hY (show p.x - a.x ≤ x1 - a.x by omega)
      omega
end Go.Proofs.Ab.Area
end
section
/- One state tells no more than another: a check by evaluation. For loops. -/
set_option linter.unusedVariables false
set_option linter.unusedSimpArgs false
namespace Go.Proofs.Ab
open Go Go.RowKit

def nodupB : List Nat → Bool
  | [] => true
  | x :: xs => !(xs.any fun y => Nat.beq y x) && nodupB xs
def renOk (rb : List (Nat × Nat)) (nx : Nat) : Bool := (rb.all fun p => Nat.blt p.1 nx) && nodupB (rb.map Prod.snd)
theorem nodupB_inj : ∀ {rb : List (Nat × Nat)}, nodupB (rb.map Prod.snd) = true → ∀ {n n' m : Nat}, (n, m) ∈ rb → (n', m) ∈ rb → n = n'
  | [], _, n, n', m, h, _ => by cases h
  | (k, v) :: r, hd, n, n', m, h, h' => by
    simp only [List.map_cons, nodupB, Bool.and_eq_true, Bool.not_eq_true', List.any_eq_false] at hd
    have hno : ∀ q, (q, v) ∉ r := fun q hq => by
      have := hd.1 v (List.mem_map.2 ⟨_, hq, rfl⟩)
      simp at this
    rcases List.mem_cons.1 h with e | h1 <;> rcases List.mem_cons.1 h' with e' | h2
    · injection e with e1 e2; injection e' with e3 e4; rw [e1, e3]
    · injection e with e1 e2; subst e2; exact absurd h2 (hno _)
    · injection e' with e1 e2; subst e2; exact absurd h1 (hno _)
    · exact nodupB_inj hd.2 h1 h2
theorem renOk_inj {rb : List (Nat × Nat)} {nx : Nat} (h : renOk rb nx = true) {n n' m : Nat} (h1 : look rb n = some m) (h2 : look rb n' = some m) : n = n' := by
  unfold renOk at h
  rw [Bool.and_eq_true] at h
  exact nodupB_inj h.2 (look_mem h1) (look_mem h2)
theorem renOk_lt {rb : List (Nat × Nat)} {nx : Nat} (h : renOk rb nx = true) {n m : Nat} (h1 : look rb n = some m) : n < nx := by
  unfold renOk at h
  rw [Bool.and_eq_true] at h
  have := List.all_eq_true.1 h.1 _ (look_mem h1)
  simpa [Nat.blt_eq] using this

/-- What a closure holds, under the new names. -/
def capsK (rb : List (Nat × Nat)) : List Cap → List Cap → Prop → Prop
  | [], [], k => k
  | .p x :: r, .p y :: r', k => SAnd (PLe x y) (capsK rb r r' k)
  | .box m off :: r, .box n off' :: r', k => lookK rb n fun m' => bif Nat.beq m' m && Nat.beq off off' then capsK rb r r' k else False
  | _, _, _ => False
theorem capsK_sound {rb : List (Nat × Nat)} {w : World} {E : Env} {ν : Nat → Option Value} : ∀ {cs ds : List Cap} {k : Prop}, capsK rb cs ds k → k ∧ cs.length = ds.length ∧ ∀ (j : Nat) (c d : Cap) (u : Value), cs[j]? = some c → ds[j]? = some d → CapRep w E c u → CapRep w ⟨E.ok, fun n => (look rb n).bind E.β, ν⟩ d u
  | [], [], k, h => ⟨h, rfl, fun j c d u hc => by simp at hc⟩
  | .p x :: r, .p y :: r', k, h => by
    obtain ⟨hk, hl, hr⟩ := capsK_sound h.k
    refine ⟨hk, by simp [hl], fun j c d u hc hd hu => ?_⟩
    cases j with
    | zero => simp at hc hd; subst hc; subst hd; exact h.h _ _ _ hu
    | succ j => simp at hc hd; exact hr j c d u hc hd hu
  | .box m off :: r, .box n off' :: r', k, h => by
    unfold capsK at h
    obtain ⟨m', hm, h3⟩ := lookK_sound h
    cases hb : Nat.beq m' m && Nat.beq off off' with
    | false => simp only [hb] at h3; exact h3.elim
    | true =>
      simp only [hb, cond_true] at h3
      rw [Bool.and_eq_true] at hb
      obtain rfl := Nat.eq_of_beq_eq_true hb.1
      obtain rfl := Nat.eq_of_beq_eq_true hb.2
      obtain ⟨hk, hl, hr⟩ := capsK_sound h3
      refine ⟨hk, by simp [hl], fun j c d u hc hd hu => ?_⟩
      cases j with
      | zero =>
        simp at hc hd; subst hc; subst hd
        obtain ⟨g, hg, e⟩ := hu
        exact ⟨g, by simp only [hm]; exact hg, e⟩
      | succ j => simp at hc hd; exact hr j c d u hc hd hu
  | [], _ :: _, k, h => by simp [capsK] at h
  | _ :: _, [], k, h => by simp [capsK] at h
  | .p _ :: _, .box _ _ :: _, k, h => by simp [capsK] at h
  | .box _ _ :: _, .p _ :: _, k, h => by simp [capsK] at h
def leFrK (rb rr : List (Nat × Nat)) (fr : List (Nat × SV)) : List (Nat × SV) → Prop → Prop
  | [], k => k
  | (t, v) :: r, k => lookK fr t fun u => match v with
    | .p y => (match u with
      | .p x => SAnd (PLe x y) (leFrK rb rr fr r k)
      | _ => False)
    | .box n off' => (match u with
      | .box m off => lookK rb n fun m' => bif Nat.beq m' m && Nat.beq off off' then leFrK rb rr fr r k else False
      | _ => False)
    | .own n => (match u with
      | .own m => lookK rr n fun m' => bif Nat.beq m' m then leFrK rb rr fr r k else False
      | _ => False)
    | .rowp _ _ => False
    | .clo g cs => (match u with
      | .clo g' cs' => bif decide (g' = g) then capsK rb cs' cs (leFrK rb rr fr r k) else False
      | _ => False)
    | .bnd g cs => (match u with
      | .bnd g' cs' => bif decide (g' = g) then capsK rb cs' cs (leFrK rb rr fr r k) else False
      | _ => False)
def leBxK (rb : List (Nat × Nat)) (bx : List (Nat × (Nat × List PV))) : List (Nat × (Nat × List PV)) → Prop → Prop
  | [], k => k
  | (n, (T, ds)) :: r, k => lookK rb n fun m => lookK bx m fun y => bif Nat.beq y.1 T then SAnd (PLeL y.2 ds) (leBxK rb bx r k) else False
def leRwK (rr : List (Nat × Nat)) (rw : List (Nat × (Nat × Nat × List (List PV)))) : List (Nat × (Nat × Nat × List (List PV))) → Prop → Prop
  | [], k => k
  | (n, (e, sz, xs)) :: r, k => lookK rr n fun m => lookK rw m fun y => bif Nat.beq y.1 e && Nat.beq y.2.1 sz then SAnd (y.2.2 = xs) (leRwK rr rw r k) else False

theorem leFrK_sound {rb rr : List (Nat × Nat)} {fr : List (Nat × SV)} {w : World} {E : Env} {tm : Nat → Value} {ok : Nat → Prop} (hfr : ∀ t v, look fr t = some v → ok t ∧ SRep w E v (tm t)) : ∀ {l : List (Nat × SV)} {k : Prop}, leFrK rb rr fr l k → k ∧
    ∀ t v, look l t = some v → ok t ∧ SRep w ⟨E.ok, fun n => (look rb n).bind E.β, fun n => (look rr n).bind E.ν⟩ v (tm t)
  | [], k, h => ⟨h, fun t v ht => by cases ht⟩
  | (t, v) :: r, k, h => by
    obtain ⟨u, hu, h⟩ := lookK_sound h
    have key : leFrK rb rr fr r k → (SRep w ⟨E.ok, fun n => (look rb n).bind E.β, fun n => (look rr n).bind E.ν⟩ v (tm t)) → k ∧
        ∀ t' v', look ((t, v) :: r) t' = some v' → ok t' ∧ SRep w ⟨E.ok, fun n => (look rb n).bind E.β, fun n => (look rr n).bind E.ν⟩ v' (tm t') := fun h hv => by
      obtain ⟨hk, hl⟩ := leFrK_sound hfr h
      refine ⟨hk, fun t' v' ht => ?_⟩
      by_cases e : t = t'
      · subst e
        rw [look_cons_self] at ht
        injection ht with ht
        subst ht
        exact ⟨(hfr t u hu).1, hv⟩
      · rw [look_cons_ne e] at ht
        exact hl t' v' ht
    have hur := (hfr t u hu).2
    cases v with
    | p y =>
      cases u with
      | p x => exact key h.k (h.h _ _ _ hur)
      | _ => exact h.elim
    | box n off' =>
      cases u with
      | box m off =>
        dsimp only at h
        obtain ⟨m', hm, h3⟩ := lookK_sound h
        cases hb : Nat.beq m' m && Nat.beq off off' with
        | false => simp only [hb] at h3; exact h3.elim
        | true =>
          simp only [hb, cond_true] at h3
          rw [Bool.and_eq_true] at hb
          obtain rfl := Nat.eq_of_beq_eq_true hb.1
          obtain rfl := Nat.eq_of_beq_eq_true hb.2
          obtain ⟨g, hg, e⟩ := hur
          exact key h3 ⟨g, by simp only [hm]; exact hg, e⟩
      | _ => exact h.elim
    | own n =>
      cases u with
      | own m =>
        dsimp only at h
        obtain ⟨m', hm, h3⟩ := lookK_sound h
        cases hb : Nat.beq m' m with
        | false => simp only [hb] at h3; exact h3.elim
        | true =>
          simp only [hb, cond_true] at h3
          obtain rfl := Nat.eq_of_beq_eq_true hb
          refine key h3 ?_
          show (look rr n).bind E.ν = some (tm t)
          rw [hm]
          exact hur
      | _ => exact h.elim
    | rowp n off => exact h.elim
    | clo g cs =>
      cases u with
      | clo g' cs' =>
        dsimp only at h
        cases hb : decide (g' = g) with
        | false => simp only [hb] at h; exact h.elim
        | true =>
          simp only [hb, cond_true] at h
          obtain ⟨h3, hl, hr⟩ := capsK_sound (w := w) (E := E) (ν := fun n => (look rr n).bind E.ν) h
          have e := of_decide_eq_true hb
          subst e
          refine key h3 ?_
          obtain ⟨us, e, h4, h5⟩ := hur
          refine ⟨us, e, by rw [h4, hl], fun j d x hd hx => ?_⟩
          have hj : j < cs'.length := by rw [hl]; exact (List.getElem?_eq_some_iff.1 hd).1
          exact hr j cs'[j] d x (List.getElem?_eq_getElem hj) hd (h5 j _ x (List.getElem?_eq_getElem hj) hx)
      | _ => exact h.elim
    | bnd g cs =>
      cases u with
      | bnd g' cs' =>
        dsimp only at h
        cases hb : decide (g' = g) with
        | false => simp only [hb] at h; exact h.elim
        | true =>
          simp only [hb, cond_true] at h
          obtain ⟨h3, hl, hr⟩ := capsK_sound (w := w) (E := E) (ν := fun n => (look rr n).bind E.ν) h
          have e := of_decide_eq_true hb
          subst e
          refine key h3 ?_
          obtain ⟨us, e, h4, h5⟩ := hur
          refine ⟨us, e, by rw [h4, hl], fun j d x hd hx => ?_⟩
          have hj : j < cs'.length := by rw [hl]; exact (List.getElem?_eq_some_iff.1 hd).1
          exact hr j cs'[j] d x (List.getElem?_eq_getElem hj) hd (h5 j _ x (List.getElem?_eq_getElem hj) hx)
      | _ => exact h.elim
theorem capsK_k {rb : List (Nat × Nat)} : ∀ {cs ds : List Cap} {k : Prop}, capsK rb cs ds k → k
  | [], [], k, h => h
  | .p x :: r, .p y :: r', k, h => capsK_k (cs := r) (ds := r') h.k
  | .box m off :: r, .box n off' :: r', k, h => by
    unfold capsK at h
    obtain ⟨m', hm, h3⟩ := lookK_sound h
    cases hb : Nat.beq m' m && Nat.beq off off' with
    | false => simp only [hb] at h3; exact h3.elim
    | true => simp only [hb, cond_true] at h3; exact capsK_k h3
  | [], _ :: _, k, h => by simp [capsK] at h
  | _ :: _, [], k, h => by simp [capsK] at h
  | .p _ :: _, .box _ _ :: _, k, h => by simp [capsK] at h
  | .box _ _ :: _, .p _ :: _, k, h => by simp [capsK] at h
theorem leFrK_k {rb rr : List (Nat × Nat)} {fr : List (Nat × SV)} : ∀ {l : List (Nat × SV)} {k : Prop}, leFrK rb rr fr l k → k
  | [], k, h => h
  | (t, v) :: r, k, h => by
    obtain ⟨u, hu, h⟩ := lookK_sound h
    cases v with
    | p y =>
      cases u with
      | p x => exact leFrK_k h.k
      | _ => exact h.elim
    | box n off' =>
      cases u with
      | box m off =>
        dsimp only at h
        obtain ⟨m', hm, h3⟩ := lookK_sound h
        cases hb : Nat.beq m' m && Nat.beq off off' with
        | false => simp only [hb] at h3; exact h3.elim
        | true => simp only [hb, cond_true] at h3; exact leFrK_k h3
      | _ => exact h.elim
    | own n =>
      cases u with
      | own m =>
        dsimp only at h
        obtain ⟨m', hm, h3⟩ := lookK_sound h
        cases hb : Nat.beq m' m with
        | false => simp only [hb] at h3; exact h3.elim
        | true => simp only [hb, cond_true] at h3; exact leFrK_k h3
      | _ => exact h.elim
    | rowp n off => exact h.elim
    | clo g cs =>
      cases u with
      | clo g' cs' =>
        dsimp only at h
        cases hb : decide (g' = g) with
        | false => simp only [hb] at h; exact h.elim
        | true => simp only [hb, cond_true] at h; exact leFrK_k (capsK_k h)
      | _ => exact h.elim
    | bnd g cs =>
      cases u with
      | bnd g' cs' =>
        dsimp only at h
        cases hb : decide (g' = g) with
        | false => simp only [hb] at h; exact h.elim
        | true => simp only [hb, cond_true] at h; exact leFrK_k (capsK_k h)
      | _ => exact h.elim
theorem leBxK_sound {rb : List (Nat × Nat)} {bx : List (Nat × (Nat × List PV))} : ∀ {l : List (Nat × (Nat × List PV))} {k : Prop}, leBxK rb bx l k → k ∧ ∀ n T ds, look l n = some (T, ds) → ∃ m cs, look rb n = some m ∧ look bx m = some (T, cs) ∧ PLeL cs ds
  | [], k, h => ⟨h, fun n T ds hn => by cases hn⟩
  | (n, (T, ds)) :: r, k, h => by
    obtain ⟨m, hm, h⟩ := lookK_sound h
    obtain ⟨⟨T', cs⟩, hy, h3⟩ := lookK_sound h
    cases hb : Nat.beq T' T with
    | false => simp only [hb] at h3; exact h3.elim
    | true =>
      simp only [hb, cond_true] at h3
      obtain rfl := Nat.eq_of_beq_eq_true hb
      obtain ⟨hk, hl⟩ := leBxK_sound h3.k
      refine ⟨hk, fun n' T'' ds' hn => ?_⟩
      by_cases e : n = n'
      · subst e
        rw [look_cons_self] at hn
        injection hn with hn
        injection hn with e1 e2
        subst e1; subst e2
        exact ⟨m, cs, hm, hy, h3.h⟩
      · rw [look_cons_ne e] at hn
        exact hl n' T'' ds' hn
theorem leRwK_sound {rr : List (Nat × Nat)} {rw : List (Nat × (Nat × Nat × List (List PV)))} : ∀ {l : List (Nat × (Nat × Nat × List (List PV)))} {k : Prop}, leRwK rr rw l k → k ∧ ∀ n x, look l n = some x → ∃ m, look rr n = some m ∧ look rw m = some x
  | [], k, h => ⟨h, fun n x hn => by cases hn⟩
  | (n, (e, sz, xs)) :: r, k, h => by
    obtain ⟨m, hm, h⟩ := lookK_sound h
    obtain ⟨⟨e', sz', xs'⟩, hy, h3⟩ := lookK_sound h
    cases hb : Nat.beq e' e && Nat.beq sz' sz with
    | false => simp only [hb] at h3; exact h3.elim
    | true =>
      simp only [hb, cond_true] at h3
      rw [Bool.and_eq_true] at hb
      obtain rfl := Nat.eq_of_beq_eq_true hb.1
      obtain rfl := Nat.eq_of_beq_eq_true hb.2
      have hx : xs' = xs := h3.h
      subst hx
      obtain ⟨hk, hl⟩ := leRwK_sound h3.k
      refine ⟨hk, fun n' x hn => ?_⟩
      by_cases e : n = n'
      · subst e
        rw [look_cons_self] at hn
        injection hn with hn
        subst hn
        exact ⟨m, hm, hy⟩
      · rw [look_cons_ne e] at hn
        exact hl n' x hn

def leDf : List Nat → List Nat → Prop → Prop
  | [], [], k => k
  | g :: r, g' :: r', k => SAnd (g = g') (leDf r r' k)
  | _, _, _ => False
theorem leDf_sound : ∀ {l l' : List Nat} {k : Prop}, leDf l l' k → k ∧ l = l'
  | [], [], k, h => ⟨h, rfl⟩
  | g :: r, g' :: r', k, h => by
    obtain ⟨hk, e⟩ := leDf_sound h.k
    exact ⟨hk, by rw [e, show g = g' from h.h]⟩
  | [], _ :: _, k, h => by simp [leDf] at h
  | _ :: _, [], k, h => by simp [leDf] at h
def LSt.eqB : LSt → LSt → Bool
  | .ready, .ready => true
  | .busy, .busy => true
  | .done .ret, .done .ret => true
  | .done (.exit a), .done (.exit b) => Nat.beq a b
  | _, _ => false
theorem LSt.eqB_eq {a b : LSt} (h : LSt.eqB a b = true) : a = b := by
  cases a with
  | ready => cases b <;> first | rfl | cases h
  | busy => cases b <;> first | rfl | cases h
  | done j =>
    cases b with
    | done j' =>
      cases j with
      | ret => cases j' with
        | ret => rfl
        | exit _ => cases h
      | exit a => cases j' with
        | ret => cases h
        | exit b => rw [Nat.eq_of_beq_eq_true h]
    | _ => cases j <;> cases h
/-- What is no cells, under the new names. -/
def leObK (rb rr ro : List (Nat × Nat)) (ob : List (Nat × Ob)) : List (Nat × Ob) → Prop → Prop
  | [], k => k
  | (n, o) :: r, k => lookK ro n fun m => lookK ob m fun o' => match o', o with
    | .siter g s pos, .siter g' s' pos' => SAnd (g = g' ∧ s = s' ∧ pos = pos') (leObK rb rr ro ob r k)
    | .mp g es, .mp g' es' => SAnd (g = g' ∧ es = es') (leObK rb rr ro ob r k)
    | .dfr g, .dfr g' => SAnd (g = g') (leObK rb rr ro ob r k)
    | .hold g T x, .hold g' T' x' => bif Nat.beq T T' then SAnd (g = g') (lookK rb n fun m' => bif Nat.beq m' m then leFrK rb rr [(0, x)] [(0, x')] (leObK rb rr ro ob r k) else False) else False
    | .hst g T nc sn, .hst g' T' nc' sn' => bif Nat.beq T T' && Nat.beq nc nc' then SAnd (g = g') (lookK rb n fun m' => bif Nat.beq m' m then leFrK rb rr sn sn' (leObK rb rr ro ob r k) else False) else False
    | .loop g st nt sn L, .loop g' st' nt' sn' L' => bif LSt.eqB st st' && Nat.beq nt nt' then SAnd (g = g' ∧ L = L') (leFrK rb rr sn sn' (leObK rb rr ro ob r k)) else False
    | _, _ => False
theorem leObK_sound {rb rr ro : List (Nat × Nat)} {ob : List (Nat × Ob)} : ∀ {l : List (Nat × Ob)} {k : Prop}, leObK rb rr ro ob l k → k ∧
    ∀ n o, look l n = some o → ∃ m o', look ro n = some m ∧ look ob m = some o' ∧ o'.blk = o.blk ∧ (o.isHold = true → o'.isHold = true ∧ look rb n = some m) ∧ ∀ (w : World) (E : Env) (x : Obj), o'.Is w E x → o.Is w ⟨E.ok, fun n => (look rb n).bind E.β, fun n => (look rr n).bind E.ν⟩ x
  | [], k, h => ⟨h, fun n o hn => by cases hn⟩
  | (n, o) :: r, k, h => by
    obtain ⟨m, hm, h2⟩ := lookK_sound h
    clear h
    obtain ⟨o', ho', h3⟩ := lookK_sound h2
    clear h2
    have key : leObK rb rr ro ob r k → o'.blk = o.blk → (o.isHold = true → o'.isHold = true ∧ look rb n = some m) → (∀ (w : World) (E : Env) (x : Obj), o'.Is w E x → o.Is w ⟨E.ok, fun n => (look rb n).bind E.β, fun n => (look rr n).bind E.ν⟩ x) → k ∧
        ∀ n' q, look ((n, o) :: r) n' = some q → ∃ m o', look ro n' = some m ∧ look ob m = some o' ∧ o'.blk = q.blk ∧ (q.isHold = true → o'.isHold = true ∧ look rb n' = some m) ∧ ∀ (w : World) (E : Env) (x : Obj), o'.Is w E x → q.Is w ⟨E.ok, fun n => (look rb n).bind E.β, fun n => (look rr n).bind E.ν⟩ x := fun h hb hh hi => by
      obtain ⟨hk, hl⟩ := leObK_sound h
      refine ⟨hk, fun n' q hq => ?_⟩
      by_cases e : n = n'
      · subst e
        rw [look_cons_self] at hq
        injection hq with hq
        subst hq
        exact ⟨m, o', hm, ho', hb, hh, hi⟩
      · rw [look_cons_ne e] at hq
        exact hl n' q hq
    cases o' with
    | siter g s pos =>
      cases o with
      | siter g' s' pos' =>
        obtain ⟨⟨rfl, rfl, rfl⟩, h⟩ := h3
        exact key h rfl (fun h => by cases h) (fun w E x h => h)
      | _ => exact h3.elim
    | mp g es =>
      cases o with
      | mp g' es' =>
        obtain ⟨⟨rfl, rfl⟩, h⟩ := h3
        exact key h rfl (fun h => by cases h) (fun w E x h => h)
      | _ => exact h3.elim
    | dfr g =>
      cases o with
      | dfr g' =>
        obtain ⟨e, h⟩ := h3
        have e : g = g' := e
        subst e
        exact key h rfl (fun h => by cases h) (fun w E x h => h)
      | _ => exact h3.elim
    | loop g st nt sn L =>
      cases o with
      | loop g' st' nt' sn' L' =>
        dsimp only at h3
        cases hb : LSt.eqB st st' && Nat.beq nt nt' with
        | false => rw [hb] at h3; exact h3.elim
        | true =>
          rw [hb] at h3
          rw [Bool.and_eq_true] at hb
          obtain rfl := LSt.eqB_eq hb.1
          obtain rfl := Nat.eq_of_beq_eq_true hb.2
          obtain ⟨⟨rfl, rfl⟩, h⟩ := h3
          have hk : leObK rb rr ro ob r k := (leFrK_k h)
          refine key hk rfl (fun h => by cases h) (fun w E x hx => ?_)
          obtain ⟨rec, g1, g2, g3, g4, g5, g6, g7⟩ := hx
          exact ⟨rec, g1, g2, g3, g4, g5, g6, (leFrK_sound (ok := fun t => t < nt) (tm := fun t => rec.tmps.getD t undef) g7 h).2⟩
      | _ => exact h3.elim
    | hold g T z =>
      cases o with
      | hold g' T' z' =>
        dsimp only at h3
        cases hb : Nat.beq T T' with
        | false => rw [hb] at h3; exact h3.elim
        | true =>
          rw [hb] at h3
          obtain rfl := Nat.eq_of_beq_eq_true hb
          obtain ⟨e, h4⟩ := h3
          have e : g = g' := e
          subst e
          obtain ⟨m', hm', h5⟩ := lookK_sound h4
          cases hb2 : Nat.beq m' m with
          | false => rw [hb2] at h5; exact h5.elim
          | true =>
            rw [hb2] at h5
            obtain rfl := Nat.eq_of_beq_eq_true hb2
            have hk : leObK rb rr ro ob r k := leFrK_k h5
            refine key hk rfl (fun _ => ⟨rfl, hm'⟩) (fun w E x hx => ?_)
            obtain ⟨u, hu, e⟩ := hx
            have := (leFrK_sound (w := w) (E := E) (ok := fun _ => True) (tm := fun _ => u) (fr := [(0, z)]) (fun t v hv => ⟨trivial, by
              by_cases e : 0 = t
              · subst e; rw [look_cons_self] at hv; injection hv with hv; subst hv; exact hu
              · rw [look_cons_ne e] at hv; cases hv⟩) h5).2 0 z' look_cons_self
            exact ⟨u, this.2, e⟩
      | _ => exact h3.elim
    | hst g T nc sn =>
      cases o with
      | hst g' T' nc' sn' =>
        dsimp only at h3
        cases hb : Nat.beq T T' && Nat.beq nc nc' with
        | false => rw [hb] at h3; exact h3.elim
        | true =>
          rw [hb] at h3
          rw [Bool.and_eq_true] at hb
          obtain rfl := Nat.eq_of_beq_eq_true hb.1
          obtain rfl := Nat.eq_of_beq_eq_true hb.2
          obtain ⟨e, h4⟩ := h3
          have e : g = g' := e
          subst e
          obtain ⟨m', hm', h5⟩ := lookK_sound h4
          cases hb2 : Nat.beq m' m with
          | false => rw [hb2] at h5; exact h5.elim
          | true =>
            rw [hb2] at h5
            obtain rfl := Nat.eq_of_beq_eq_true hb2
            have hk : leObK rb rr ro ob r k := leFrK_k h5
            refine key hk rfl (fun _ => ⟨rfl, hm'⟩) (fun w E x hx => ?_)
            obtain ⟨us, h6, h7, h8⟩ := hx
            exact ⟨us, h6, h7, (leFrK_sound (w := w) (E := E) (ok := fun t => t < nc) (tm := fun t => us.toArray.getD t undef) h8 h5).2⟩
      | _ => exact h3.elim
/-- .. with what is no cells. -/
theorem SLe.ofO {C : Cx} {nt : Nat} (rb rr ro : List (Nat × Nat)) {s t : AS} (h1 : renOk rb t.nx = true) (h2 : renOk rr t.nx = true) (h3 : nodupB (ro.map Prod.snd) = true) (h : leFrK rb rr s.fr t.fr (leFrK rb rr s.sv t.sv (leBxK rb s.bx t.bx (leRwK rr s.rw t.rw (leObK rb rr ro s.ob t.ob (leDf s.df t.df True)))))) : SLe C nt s t := by
  refine ⟨fun {B ok0 w0 a w E} hS => ⟨⟨E.ok, fun n => (look rb n).bind E.β, fun n => (look rr n).bind E.ν⟩, ?_⟩⟩
  obtain ⟨h, hfr⟩ := leFrK_sound (ok := fun t => t < nt) hS.fr h
  obtain ⟨h, hsv⟩ := leFrK_sound (ok := fun _ => True) (fun t v hv => ⟨trivial, hS.svs t v hv⟩) h
  obtain ⟨h, hbx⟩ := leBxK_sound h
  obtain ⟨h, hrw⟩ := leRwK_sound h
  obtain ⟨h, hob⟩ := leObK_sound h
  obtain ⟨_, hdf⟩ := leDf_sound h
  have hβ : ∀ n m, look rb n = some m → (look rb n).bind E.β = E.β m := fun n m h => by rw [h]; rfl
  have hν : ∀ n m, look rr n = some m → (look rr n).bind E.ν = E.ν m := fun n m h => by rw [h]; rfl
  refine ⟨hdf ▸ hS.defs, hS.size, hfr, ⟨fun n T ds hn => ?_, fun n e sz xs hn => ?_, ?_⟩, fun n m x y g hn hm hg hg' => ?_, fun n m x y g v hn hm hg hv => ?_, fun n m x y g v v' hn hm hv hv' hg hg' => ?_, fun n hn => ⟨?_, ?_⟩, hS.ok_lt, hS.ok_from, hS.ok_all, hS.hB, hS.below, hS.glob, fun t v hv => (hsv t v hv).2, ⟨fun n m x y hn hm he => ?_, fun n m x y hn hm he => ?_, fun n m x y v hn hm hv he => ?_⟩⟩
  · obtain ⟨m, cs, hm, hcs, hle⟩ := hbx n T ds hn
    obtain ⟨g, us, hg, hB, hok, hgg, hr⟩ := hS.mem.bx m T cs hcs
    exact ⟨g, us, (hβ n m hm).trans hg, hB, hok, hgg, hle.rep hr⟩
  · obtain ⟨m, hm, hx⟩ := hrw n _ hn
    obtain ⟨v, us, hv, ho⟩ := hS.mem.rw m e sz xs hx
    exact ⟨v, us, (hν n m hm).trans hv, ho⟩
  · intro n o hn
    obtain ⟨m, o', hm, ho', hb, hh, hi⟩ := hob n o hn
    obtain ⟨g1, g2, x, g3, g4, g5⟩ := hS.mem.ob m o' ho'
    rw [← hb]
    exact ⟨g1, g2, x, g3, fun hq => (hβ n m (hh hq).2).trans (g4 (hh hq).1), hi w E x g5⟩
  · obtain ⟨T, ds⟩ := x
    obtain ⟨T', ds'⟩ := y
    obtain ⟨k, cs, hk, hcs, _⟩ := hbx n T ds hn
    obtain ⟨k', cs', hk', hcs', _⟩ := hbx m T' ds' hm
    have := hS.bb k k' _ _ g hcs hcs' ((hβ n k hk).symm.trans hg) ((hβ m k' hk').symm.trans hg')
    subst this
    exact renOk_inj h1 hk hk'
  · obtain ⟨T, ds⟩ := x
    obtain ⟨k, cs, hk, hcs, _⟩ := hbx n T ds hn
    obtain ⟨k', hk', hx'⟩ := hrw m _ hm
    exact hS.br k k' _ _ g v hcs hx' ((hβ n k hk).symm.trans hg) ((hν m k' hk').symm.trans hv)
  · obtain ⟨k, hk, hx1⟩ := hrw n _ hn
    obtain ⟨k', hk', hx2⟩ := hrw m _ hm
    have := hS.rr k k' _ _ g v v' hx1 hx2 ((hν n k hk).symm.trans hv) ((hν m k' hk').symm.trans hv') hg hg'
    subst this
    exact renOk_inj h2 hk hk'
  · show (look rb n).bind E.β = none
    cases hl : look rb n with
    | none => rfl
    | some m => have := renOk_lt h1 hl; omega
  · show (look rr n).bind E.ν = none
    cases hl : look rr n with
    | none => rfl
    | some m => have := renOk_lt h2 hl; omega
  · obtain ⟨k, x', hk, hx', e1, _⟩ := hob n x hn
    obtain ⟨k', y', hk', hy', e2, _⟩ := hob m y hm
    have := hS.od.oo k k' x' y' hx' hy' (by rw [e1, e2, he])
    subst this
    exact nodupB_inj h3 (look_mem hk) (look_mem hk')
  · obtain ⟨T, ds⟩ := x
    obtain ⟨k, cs, hk, hcs, _⟩ := hbx n T ds hn
    obtain ⟨k', y', hk', hy', e2, _⟩ := hob m y hm
    exact hS.od.bo k k' _ y' hcs hy' (((hβ n k hk).symm.trans he).trans (by rw [e2]))
  · obtain ⟨k, hk, hx'⟩ := hrw n x hn
    obtain ⟨k', y', hk', hy', e2, _⟩ := hob m y hm
    exact hS.od.ro k k' _ y' v hx' hy' ((hν n k hk).symm.trans hv) (by rw [e2]; exact he)
theorem SLe.of {C : Cx} {nt : Nat} (rb rr : List (Nat × Nat)) {s t : AS} (h1 : renOk rb t.nx = true) (h2 : renOk rr t.nx = true) (h : leFrK rb rr s.fr t.fr (leFrK rb rr s.sv t.sv (leBxK rb s.bx t.bx (leRwK rr s.rw t.rw (leObK rb rr [] s.ob t.ob (leDf s.df t.df True)))))) : SLe C nt s t := SLe.ofO rb rr [] h1 h2 rfl h
theorem SLe.trans {C : Cx} {nt : Nat} {s t u : AS} (h : SLe C nt s t) (h' : SLe C nt t u) : SLe C nt s u := ⟨fun hS => let ⟨_, h1⟩ := h.le hS; h'.le h1⟩
theorem SLe.row {C : Cx} {nt : Nat} {s u : AS} (t e sz : Nat) (h : rowK s t e sz fun s' => SLe C nt s' u) : SLe C nt s u := by
  obtain ⟨s', h, hs⟩ := rowK_sound (C := C) (nt := nt) h
  exact ⟨fun hS => let ⟨_, h1⟩ := hs hS; h.le h1⟩
theorem SLe.shutB {C : Cx} {nt : Nat} {s u : AS} (n : Nat) (h : sealK s n fun s' => SLe C nt s' u) : SLe C nt s u := by
  obtain ⟨s', h, hs⟩ := sealK_sound (C := C) (nt := nt) h
  exact ⟨fun hS => let ⟨_, h1⟩ := hs hS; h.le h1⟩
end Go.Proofs.Ab
end
section
/- What the chapter's values and functions are, in plain Lean. -/
namespace Go.Proofs.Ab.Area
open Go Go.Proofs.Ab
instance : Inhabited Pt := ⟨⟨0, 0⟩⟩
abbrev pc (p : Pt) : List PV := [I p.x, I p.y]
structure Bx where
  lo : Pt
  hi : Pt
  deriving Inhabited
abbrev bc (b : Bx) : List PV := [I b.lo.x, I b.lo.y, I b.hi.x, I b.hi.y]
structure Ar where
  name : ByteArray
  size : Int
  cat : Int
  poly : List Pt
  deriving Inhabited
abbrev ac (a : Ar) : List PV := [St a.name, I a.size, I a.cat, .seq 2 (a.poly.map pc)]
structure Ld where
  name : ByteArray
  cat : Int
  lo : Int
  hi : Int
  deriving Inhabited
abbrev lc (l : Ld) : List PV := [St l.name, I l.cat, I l.lo, I l.hi]
structure Mv where
  name : ByteArray
  size : Int
  box : Bx
  lo : Int
  hi : Int
  deriving Inhabited
abbrev mc (m : Mv) : List PV := [St m.name, I m.size, I m.box.lo.x, I m.box.lo.y, I m.box.hi.x, I m.box.hi.y, I m.lo, I m.hi]
structure Cf where
  l : Int
  m : Int
  a : Int
abbrev cc (c : Cf) : List PV := [I c.l, I c.m, I c.a]
structure Hd where
  name : ByteArray
  at_ : Pt
  deriving Inhabited
abbrev hc (h : Hd) : List PV := [St h.name, I h.at_.x, I h.at_.y]
structure Fg where
  name : ByteArray
  kind : Int
  ready : Int
  deriving Inhabited
abbrev fc (f : Fg) : List PV := [St f.name, I f.kind, I f.ready]

def within (n a b : Int) : Int := if n < a ∨ b < n then 3 else 0
theorem within_zero {n a b : Int} : within n a b = 0 ↔ a ≤ n ∧ n ≤ b := by
  unfold within
  split
  · rename_i h; simp; omega
  · rename_i h; simp; omega
def firstOf : List Int → Int
  | [] => 0
  | x :: xs => if x = 0 then firstOf xs else x
theorem firstOf_zero {x : Int} {xs : List Int} : firstOf (x :: xs) = 0 ↔ x = 0 ∧ firstOf xs = 0 := by
  show (if x = 0 then firstOf xs else x) = 0 ↔ _
  split
  · rename_i h; simp [h]
  · rename_i h; simp [h]
theorem firstOf_all {xs : List Int} : firstOf xs = 0 ↔ ∀ x ∈ xs, x = 0 := by
  induction xs with
  | nil => simp [firstOf]
  | cons x xs ih => rw [firstOf_zero, ih]; simp
def ptE (p : Pt) : Int := firstOf [within p.x (-1000000) 1000000, within p.y (-1000000) 1000000]
theorem ptE_zero {p : Pt} : ptE p = 0 ↔ (-1000000 ≤ p.x ∧ p.x ≤ 1000000) ∧ -1000000 ≤ p.y ∧ p.y ≤ 1000000 := by
  unfold ptE
  rw [firstOf_zero, firstOf_zero, within_zero, within_zero]
  simp [firstOf]
/-- Corner number i, counted on and on. -/
def cor (l : List Pt) (i : Nat) : Pt := l.getD (i % l.length) default
def badB (l : List Pt) (i : Nat) : Bool := l.any (fun c => decide (cr (cor l i) (cor l (i + 1)) c < 0)) || decide (cr (cor l i) (cor l (i + 1)) (cor l (i + 2)) ≤ 0) || (l.take i).any fun c => decide (c = cor l i)
def polyF (l : List Pt) : Int := firstOf [if l.length < 3 then 16 else 0, if 8 < l.length then 5 else 0, firstOf (l.map ptE)]
def polyE (l : List Pt) : Int := if polyF l = 0 then (if (List.range l.length).any (badB l) then 1 else 0) else polyF l
def inB (l : List Pt) (p : Pt) : Bool := (List.range l.length).all fun i => decide (0 ≤ cr (cor l i) (cor l (i + 1)) p)
def inE (l : List Pt) (p : Pt) : Int := firstOf [polyE l, ptE p]
def sizeI (l : List Pt) : Nat → Int
  | 0 => 0
  | k + 1 => sizeI l k + ((cor l k).x * (cor l (k + 1)).y - (cor l (k + 1)).x * (cor l k).y)
def boxE (b : Bx) : Int := firstOf [ptE b.lo, ptE b.hi, if b.hi.x < b.lo.x ∨ b.hi.y < b.lo.y then 11 else 0]
def four (b : Bx) : List Pt := [b.lo, ⟨b.hi.x, b.lo.y⟩, b.hi, ⟨b.lo.x, b.hi.y⟩]
def corners (b : Bx) : List Pt := if b.lo = b.hi then [b.lo] else four b
def sepB (l : List Pt) (b : Bx) : Bool := (List.range l.length).any fun i => (corners b).all fun p => decide (cr (cor l i) (cor l (i + 1)) p < 0)
def sideB (l : List Pt) (b : Bx) : Bool := l.all (fun p => decide (p.x < b.lo.x)) || l.all (fun p => decide (b.hi.x < p.x)) || l.all (fun p => decide (p.y < b.lo.y)) || l.all fun p => decide (b.hi.y < p.y)
def meetsB (l : List Pt) (b : Bx) : Bool := !sepB l b && !sideB l b
def meetsE (l : List Pt) (b : Bx) : Int := firstOf [polyE l, boxE b]
def sizeE (n : Int) : Int := within n 0 3
def catE (n : Int) : Int := within n 1 3
def ticksE (a b : Int) : Int := if a < 0 ∨ b ≤ a ∨ 100000000 < b then 14 else 0
/-- Names: a letter ahead, then letters, digits and _; at most 24. -/
def letter (c : UInt8) : Bool := decide (97 ≤ c.toNat ∧ c.toNat ≤ 122) || decide (65 ≤ c.toNat ∧ c.toNat ≤ 90)
def other (c : UInt8) : Bool := decide (48 ≤ c.toNat ∧ c.toNat ≤ 57) || decide (c.toNat = 95)
def nameL : List UInt8 → Bool
  | [] => false
  | c :: l => letter c && l.all (fun c => letter c || other c) && decide (l.length < 24)
def nameB (s : ByteArray) : Bool := nameL s.data.toList
def knownB (l : List ByteArray) (s : ByteArray) : Bool := l.any fun k => decide (k = s)
def namedF : List ByteArray → List (ByteArray × Int) → Int
  | _, [] => 0
  | known, x :: r => if firstOf [if nameB x.1 then 0 else 8, if knownB known x.1 then 9 else 0, x.2] = 0 then namedF (known ++ [x.1]) r else firstOf [if nameB x.1 then 0 else 8, if knownB known x.1 then 9 else 0, x.2]
def namedE (most : Int) (l : List (ByteArray × Int)) : Int := if most < l.length then 5 else namedF [] l
def areaE (a : Ar) : Int := firstOf [sizeE a.size, catE a.cat, polyE a.poly]
def areasE (l : List Ar) : Int := namedE 16 (l.map fun a => (a.name, areaE a))
def landE (l : Ld) : Int := firstOf [catE l.cat, ticksE l.lo l.hi]
def landsE (l : List Ld) : Int := namedE 32 (l.map fun a => (a.name, landE a))
def moveE (m : Mv) : Int := firstOf [sizeE m.size, boxE m.box, ticksE m.lo m.hi]
def movesE (l : List Mv) : Int := namedE 32 (l.map fun a => (a.name, moveE a))
def holdsE (l : List Hd) : Int := namedE 16 (l.map fun a => (a.name, ptE a.at_))
def flyE (f : Fg) : Int := firstOf [within f.kind 0 2, within f.ready 0 100000000]
def flightsE (l : List Fg) : Int := firstOf [if l.length = 0 then 12 else 0, namedE 8 (l.map fun a => (a.name, flyE a))]
def appliesB (a : Ar) (size cat : Int) : Bool := decide (a.size ≤ size) && decide (a.cat ≤ cat)
def applyL (l : List Ar) (size cat : Int) : List ByteArray := (l.filter fun a => appliesB a size cat).map (·.name)
def applyE (l : List Ar) (size cat : Int) : Int := firstOf [areasE l, sizeE size, catE cat]
def sceneE (l : List Ar) (x : List Ld) (m : List Mv) : Int := firstOf [areasE l, landsE x, movesE m]
def commonB (a b c d : Int) : Bool := decide (a < d) && decide (c < b)
def againstB (l : Ld) (m : Mv) (a : Ar) : Bool := commonB l.lo l.hi m.lo m.hi && appliesB a m.size l.cat && meetsB a.poly m.box
/-- The conflicts of landing i and move k with the first n areas; of landing i with the first k moves; of the first i landings. -/
def confA (areas : List Ar) (l : Ld) (m : Mv) (i k n : Nat) : List Cf := ((List.range n).filter fun j => againstB l m (areas.getD j default)).map fun (j : Nat) => ⟨i, k, j⟩
def confM (areas : List Ar) (moves : List Mv) (l : Ld) (i : Nat) : Nat → List Cf
  | 0 => []
  | k + 1 => confM areas moves l i k ++ confA areas l (moves.getD k default) i k areas.length
def confL (areas : List Ar) (lands : List Ld) (moves : List Mv) : Nat → List Cf
  | 0 => []
  | i + 1 => confL areas lands moves i ++ confM areas moves (lands.getD i default) i moves.length
def conf (areas : List Ar) (lands : List Ld) (moves : List Mv) : List Cf := confL areas lands moves lands.length
def hasB (a b t : Int) : Bool := decide (a ≤ t) && decide (t < b)
def permB (areas : List Ar) (lands : List Ld) (m : Mv) : Bool := (conf areas lands [m]).isEmpty
def usableL (l : List Ar) (h : List Hd) (size cat : Int) : List ByteArray := (h.filter fun x => !l.any fun a => appliesB a size cat && inB a.poly x.at_).map (·.name)
def usableE (l : List Ar) (h : List Hd) (size cat : Int) : Int := firstOf [areasE l, holdsE h, sizeE size, catE cat]
end Go.Proofs.Ab.Area
end
section
/- Ranges over functions, their rounds; scopes; labels. -/
set_option linter.unusedVariables false
set_option linter.unusedSimpArgs false
namespace Go.Proofs.Ab
open Go Go.RowKit

/-! ### The statement -/
/-- A closure's captured values. -/
def clK : SV → (FuncId → List SV → Prop) → Prop
  | .clo g cs, k => capK cs fun l => k g l
  | .p (.fn g cs), k => svK cs fun l => k g l
  | _, _ => False
theorem clK_sound {x : SV} {k : FuncId → List SV → Prop} (h : clK x k) : ∃ g l, k g l ∧ ∀ {w : World} {E : Env} {u : Value}, SRep w E x u → ∃ cv : Array Value, u = .func (.func g) #[] cv ∧ SRepL w E l cv.toList := by
  unfold clK at h
  split at h
  · rename_i g cs
    refine ⟨g, _, capK_sound h, fun {w E u} hu => ?_⟩
    obtain ⟨vs, rfl, hl, hr⟩ := hu
    refine ⟨vs.toArray, rfl, by simp [hl], fun j c x hc hx => ?_⟩
    simp only [List.getElem?_map, Option.map_eq_some_iff] at hc
    obtain ⟨d, hd, rfl⟩ := hc
    exact capRep_iff.1 (hr j d x hd (by simpa using hx))
  · rename_i g cs
    refine ⟨g, _, svK_sound h, fun {w E u} hu => ?_⟩
    obtain ⟨vs, rfl, hr⟩ := fn_inv hu
    refine ⟨vs.toArray, rfl, by simp [hr.1], fun j c x hc hx => ?_⟩
    simp only [List.getElem?_map, Option.map_eq_some_iff] at hc
    obtain ⟨d, hd, rfl⟩ := hc
    exact hr.2 j d x hd (by simpa using hx)
  · exact h.elim
/-- Behind the iterator: its record tells the way on. -/
def afterK (n gd gl : Nat) (df : List Nat) (Q : Out → AS → Prop) (s : AS) : Prop := match s with
  | ⟨f, b, r, nx, sv, ob, _⟩ => lookK ob n fun x => match x with
    | .loop g st _ _ _ => SAnd (g = gl) (strikeK ob n fun ob' => match st with
      | .ready => Q .normal ⟨f, b, r, nx, sv, ob', gd :: df⟩
      | .done .ret => Q .ret ⟨f, b, r, nx, sv, ob', gd :: df⟩
      | .done (.exit i) => Q (.exit i) ⟨f, b, r, nx, sv, ob', gd :: df⟩
      | .busy => False)
    | _ => False
/-- **A RANGE OVER A FUNCTION.** -/
theorem AWp.rangeF {C : Cx} (hC : C.inR = false) {nt : Nat} {s : AS} {Q : Out → AS → Prop} {f : Operand} {ps : Array Tmp} {assign body : Code}
    (h : operK C s f fun x => clK x fun g l => ∀ (gd gl : Nat) (L : LpC), L.ps = ps → L.assign = assign → L.body = body →
      match s with | ⟨fr, b, r, nx, sv, ob, df⟩ => ACall C nt ⟨fr, b, r, nx + 2, sv, (nx + 1, .loop gl .ready nt fr L) :: (nx, .dfr gd) :: ob, df⟩ g (.p (.v (.func (.yield gl) #[] #[])) :: l) fun _ s' => afterK (nx + 1) gd gl df Q s') :
    AWp C nt (.rangeFunc f ps assign body) Q s := by
  refine ⟨fun F n hF B ok0 w0 a w E R hS hR => ?_⟩
  obtain ⟨x, h, hx⟩ := operK_sound (nt := nt) h
  obtain ⟨g, l, h, hcl⟩ := clK_sound h
  obtain ⟨cv, hg, hl⟩ := hcl (hx hS)
  have h := h w.heap.size (w.heap.size + 1) ⟨ps, assign, body⟩ rfl rfl rfl
  obtain ⟨fr, bx, rw_, nx, sv, ob, df⟩ := s
  refine wpIn_rangeFunc ?_
  intro fn hfn
  rw [hF.round hC]
  obtain ⟨W1, hW1⟩ : ∃ W1, (w.alloc (.deferred (some []))).alloc (.loop { state := .ready, pending := none, fn := fn, tmps := a.tmps, params := ps, assign := assign, body := body, defers := w.heap.size }) = W1 := ⟨_, rfl⟩
  have hS1 := hS.newOb (x := .dfr w.heap.size) (o := .deferred (some [])) rfl rfl rfl
  have hS2 := hS1.newOb (x := .loop (w.heap.size + 1) .ready nt fr ⟨ps, assign, body⟩) (o := .loop { state := .ready, pending := none, fn := fn, tmps := a.tmps, params := ps, assign := assign, body := body, defers := w.heap.size }) (by simp [Ob.blk]) rfl
    ⟨_, rfl, rfl, rfl, rfl, ⟨rfl, rfl⟩, hS.size, fun t v hv => hS1.fr t v hv⟩
  rw [hW1] at hS2
  have hb1 : Below w.heap.size w W1 := by
    rw [← hW1]; exact ((Below.refl _ w).alloc (Nat.le_refl _) _).alloc (by simp) _
  refine ⟨w.heap.size + 1, [{ target := .collected w.heap.size, args := #[] }], W1, { target := .fn (.func g) cv, args := #[.func (.yield (w.heap.size + 1)) #[] #[]] }, W1, g,
    (.func (.yield (w.heap.size + 1)) #[] #[] :: cv.toList).toArray, W1, ?_, ?_, ?_, ?_, hF.one, ?_⟩
  · rw [← hW1]; exact run_enterLoop_outer _ _ _ _ _
  · simp only [resolve, hg]
    simp [go_sem]
  · intro f' _; exact hF.fn f'
  · have e : (#[.func (.yield (w.heap.size + 1)) #[] #[]] ++ cv : Array Value) = (.func (.yield (w.heap.size + 1)) #[] #[] :: cv.toList).toArray := by simp
    simp only [invoke, Array.empty_append]
    rw [e, run_enter h.body]
  · refine (hF.calls ((h.h B ok0 w0 a W1 E _ (fun u w' => rangePost F n C.P (w.heap.size + 1) R { a with defers := [{ target := .collected w.heap.size, args := #[] }] ++ a.defers } (.returned u) w') hS2 (.cons (.v _) ?_) ?_).mono ?_))
    · refine ⟨hl.1, fun j c x hc hx => (hl.2 j c x hc hx).ext (E' := E) ⟨fun _ h => h, fun _ _ h => h, fun _ _ h => h⟩ (fun b hb => hb1.block b (hS.ok_lt b hb))⟩
    · intro v s' u w' E' hk hS' hu
      obtain ⟨f', b', r', nx', sv', ob', df'⟩ := s'
      unfold afterK at hk
      dsimp only at hk
      obtain ⟨y, hy, hk⟩ := lookK_sound hk
      split at hk
      case h_2 => exact hk.elim
      rename_i gg st nt' sn L
      obtain ⟨e, hk⟩ := hk
      subst e
      obtain ⟨ob2, hk, hst⟩ := strikeK_sound hk
      obtain ⟨_, _, z, hz, hzc, hzi⟩ := hS'.mem.ob _ _ hy
      obtain ⟨rec, hz1, g1, g2, g3, g4, g5, g6⟩ := hzi
      subst hz1
      have hz' : w'.heap[w.heap.size + 1]? = some (.loop rec) := hz
      have hnb : (LSt.eqB st .busy = true → False) → rec.state ≠ .busy := by
        intro hb
        cases st with
        | ready => rw [show rec.state = .ready from g4.1]; simp
        | busy => exact (hb rfl).elim
        | done j => rw [show rec.state = .done from g4.1]; simp
      have hset : ∀ ds, ds = (w.heap.size :: df).map (fun g => (⟨.collected g, #[]⟩ : Deferred)) → Sat C nt ⟨f', b', r', nx', sv', ob2, w.heap.size :: df⟩ B ok0 w0 { a with defers := ds } (w'.putObj (w.heap.size + 1) (.loop { rec with state := .exhausted })) E' := by
        intro ds hds
        have := hS'.setOb (x := .loop (w.heap.size + 1) st nt' sn L) (o := .loop { rec with state := .exhausted }) hy (ob' := ob2) (fun y hy => absurd rfl (hst _ y hy).2) (fun y hy => absurd rfl (hst _ y hy).2) (fun k hk y hy => (hst k y hy).1)
        exact ⟨hds, this.size, this.fr, ⟨this.mem.bx, this.mem.rw, this.mem.ob⟩, this.bb, this.br, this.rr, this.fresh, this.ok_lt, this.ok_from, this.ok_all, this.hB, this.below, this.glob, this.svs, this.od⟩
      have hds : ([{ target := .collected w.heap.size, args := #[] }] ++ a.defers : List Deferred) = (w.heap.size :: df).map (fun g => (⟨.collected g, #[]⟩ : Deferred)) := by
        have := hS.defs
        rw [this]; rfl
      have hset := hset _ hds
      cases st with
      | busy => exact hk.elim
      | ready =>
        refine ⟨_, _, run_endLoop hz' (hnb (by simp [LSt.eqB])), ?_⟩
        have e4 : rec.pending = none := g4.2
        rw [e4] at hset ⊢
        exact hR .normal _ _ _ _ hk hset
      | done j =>
        refine ⟨_, _, run_endLoop hz' (hnb (by simp [LSt.eqB])), ?_⟩
        have e4 : rec.pending = some j.code := g4.2
        rw [e4] at hset ⊢
        cases j with
        | ret => exact wpIn_ret (hR .ret _ _ _ _ hk hset)
        | exit i => exact wpIn_exit (hR (.exit i) _ _ _ _ hk hset)
    · rintro e w' ⟨u, rfl, hR⟩
      exact hR

/-! ### A round -/
/-- The parameters, set. -/
def parK (nt : Nat) : List Tmp → List SV → List (Nat × SV) → (List (Nat × SV) → Prop) → Prop
  | [], [], fr, k => k fr
  | p :: ps, x :: xs, fr, k => bif Nat.blt p nt then parK nt ps xs ((p, x) :: fr) k else False
  | _, _, _, _ => False
theorem parK_sound {nt : Nat} {w : World} {E : Env} : ∀ {ps : List Tmp} {xs : List SV} {fr : List (Nat × SV)} {k : List (Nat × SV) → Prop} {tmps : Array Value} {us : List Value}, parK nt ps xs fr k → tmps.size = nt → (∀ t v, look fr t = some v → t < nt ∧ SRep w E v (tmps.getD t undef)) → SRepL w E xs us →
    us.length = ps.length ∧ ∃ fr', k fr' ∧ ((ps.zip us).foldl (fun t (q : Tmp × Value) => t.setIfInBounds q.1 q.2) tmps).size = nt ∧ ∀ t v, look fr' t = some v → t < nt ∧ SRep w E v (((ps.zip us).foldl (fun t (q : Tmp × Value) => t.setIfInBounds q.1 q.2) tmps).getD t undef)
  | [], [], fr, k, tmps, us, h, hs, hf, hu => by
    obtain rfl := hu.unnil
    exact ⟨rfl, fr, h, hs, hf⟩
  | p :: ps, x :: xs, fr, k, tmps, us, h, hs, hf, hu => by
    obtain ⟨u, us, rfl, hu1, hu2⟩ := hu.uncons
    unfold parK at h
    cases hb : Nat.blt p nt with
    | false => rw [hb] at h; exact h.elim
    | true =>
      rw [hb] at h
      have hp : p < nt := by simpa [Nat.blt_eq] using hb
      obtain ⟨hl, fr', hk, h1, h2⟩ := parK_sound (tmps := tmps.setIfInBounds p u) h (by simp [hs]) (fun t v hv => by
        by_cases e : p = t
        · subst e
          rw [look_cons_self] at hv
          injection hv with hv
          subst hv
          exact ⟨hp, by simp [Array.getD, hs, hp]; exact hu1⟩
        · rw [look_cons_ne e] at hv
          obtain ⟨h1, h2⟩ := hf t v hv
          refine ⟨h1, ?_⟩
          have : (tmps.setIfInBounds p u).getD t undef = tmps.getD t undef := by
            simp [Array.getD, hs, h1, Array.getElem_setIfInBounds, e]
          rw [this]
          exact h2) hu2
      exact ⟨by simp [hl], fr', hk, h1, h2⟩
  | [], _ :: _, _, _, _, _, h, _, _, _ => by simp [parK] at h
  | _ :: _, [], _, _, _, _, h, _, _, _ => by simp [parK] at h
/-- The loop's record turns. -/
def turnK (n g : Nat) (st st' : LSt) (s : AS) (K : AS → Prop) : Prop := match s with
  | ⟨f, b, r, nx, sv, ob, df⟩ => lookK ob n fun x => match x with
    | .loop g' st0 nt sn L => bif LSt.eqB st0 st then SAnd (g' = g) (strikeK ob n fun ob' => K ⟨f, b, r, nx, sv, (n, .loop g' st' nt sn L) :: ob', df⟩) else False
    | _ => False
theorem turnK_sound {n g : Nat} {st st' : LSt} {s : AS} {K : AS → Prop} (h : turnK n g st st' s K) : ∃ s', K s' ∧ ∀ {C : Cx} {nt B ok0 w0 a w E}, Sat C nt s B ok0 w0 a w E → ∃ rec : Loop, w.heap[g]? = some (.loop rec) ∧ st.Is rec ∧
    ∀ rec' : Loop, rec'.params = rec.params → rec'.assign = rec.assign → rec'.body = rec.body → rec'.tmps = rec.tmps → st'.Is rec' → Sat C nt s' B ok0 w0 a (w.putObj g (.loop rec')) E := by
  obtain ⟨f, b, r, nx, sv, ob, df⟩ := s
  unfold turnK at h
  dsimp only at h
  obtain ⟨y, hy, h2⟩ := lookK_sound h
  clear h
  have h := h2
  split at h
  case h_2 => exact h.elim
  rename_i g' st0 nt' sn L
  cases hb : LSt.eqB st0 st with
  | false => rw [hb] at h; exact h.elim
  | true =>
    rw [hb] at h
    obtain rfl := LSt.eqB_eq hb
    obtain ⟨e, h⟩ := h
    have e : g' = g := e
    subst e
    obtain ⟨ob', hk, hst⟩ := strikeK_sound h
    refine ⟨_, hk, fun {C nt B ok0 w0 a w E} hS => ?_⟩
    obtain ⟨_, _, z, hz, hzc, hzi⟩ := hS.mem.ob n _ hy
    obtain ⟨rec, hz1, g1, g2, g3, g4, g5, g6⟩ := hzi
    subst hz1
    refine ⟨rec, hz, g4, fun rec' h1 h2 h3 h4 h5 => ?_⟩
    refine hS.setOb (x := .loop g' st0 nt' sn L) (o := .loop rec') hy (ob' := (n, .loop g' st' nt' sn L) :: ob') (fun y hy => by rw [look_cons_self] at hy; injection hy with hy; rw [← hy]; rfl) (fun y hy => ?_) (fun k hk y hy => ?_)
    · rw [look_cons_self] at hy
      injection hy with hy
      subst hy
      exact ⟨rfl, rec', rfl, h1.trans g1, h2.trans g2, h3.trans g3, h5, by rw [h4]; exact g5, by rw [h4]; exact g6⟩
    · rw [look_cons_ne (fun e => hk e.symm)] at hy
      exact (hst k y hy).1
/-- Back in the iterator's frame. -/
def homeK (nt : Nat) (df : List Nat) (s : AS) (K : AS → Prop) : Prop := match s with | ⟨_, b, r, n, sv, o, _⟩ => restoreK nt sv fun fr sv' => K ⟨fr, b, r, n, sv', o, df⟩
theorem SRound.of {C : Cx} (hC : C.Good) {nt : Nat} {s : AS} {g : Nat} {xs : List SV} {K : Bool → AS → Prop} (mu : List Nat) {n nt' : Nat} {sn : List (Nat × SV)} {L : LpC} {ps : List Tmp} {assign body : Code}
    (hn : look s.ob n = some (.loop g .ready nt' sn L)) (hp : L.ps = ps.toArray) (ha : L.assign = assign) (hbd : L.body = body)
    (h : match s with | ⟨fr, b, r, nx, sv, o, df⟩ => shK nt sv fun l => apL fr l fun saved => parK nt' ps xs sn fun fr0 => codeK { C with inR := true } nt' mu assign ⟨fr0, b, r, nx, saved, o, []⟩ fun e s1 => match e with
      | .normal => turnK n g .ready .busy s1 fun s2 => AWp { C with inR := true } nt' body (fun e s3 => match e with
        | .normal => turnK n g .busy .ready s3 fun s4 => homeK nt df s4 (K true)
        | .ret => turnK n g .busy (.done .ret) s3 fun s4 => homeK nt df s4 (K false)
        | .exit i => turnK n g .busy (.done (.exit i)) s3 fun s4 => homeK nt df s4 (K false)) s2
      | _ => False) : SRound C nt s g xs K := by
  refine ⟨fun F m B ok0 w0 a w E us R hFf hFd hFa hFr hS hus hR => ?_⟩
  obtain ⟨fr, b, r, nx, sv, ob, df⟩ := s
  obtain ⟨l, h, hsh⟩ := shK_sound h
  have h := apL_sound h
  have hC' : ({ C with inR := true } : Cx).Good := ⟨hC.tab, hC.mixed⟩
  obtain ⟨_, _, z, hz, hzc, hzi⟩ := hS.mem.ob n _ hn
  obtain ⟨rec, hz1, g1, g2, g3, g4, g5, g6⟩ := hzi
  subst hz1
  have hz' : w.heap[g]? = some (.loop rec) := hz
  obtain ⟨hl, fr0, h, hsz, hfr0⟩ := parK_sound (E := E) (w := w) (tmps := rec.tmps) h g5 g6 hus
  have hpz : rec.params = ps.toArray := g1.trans hp
  have hy := run_yield (P := C.P) (args := us.toArray) hz' (by rw [hpz]; simp [hl])
  refine ⟨_, _, _, _, hy, ?_⟩
  have etm : (rec.params.zip us.toArray).foldl (fun tmps (t, a) => tmps.setIfInBounds t a) rec.tmps = (ps.zip us).foldl (fun t (q : Tmp × Value) => t.setIfInBounds q.1 q.2) rec.tmps := by
    rw [hpz]; simp
  rw [etm, g2, g3, ha, hbd]
  refine roundIn_of_wpIn (hFf _) ?_
  have hFW : FW { C with inR := true } (F.inRound g) := ⟨hFf, hFd, hFa, fun h => by cases h⟩
  have hS1 : Sat { C with inR := true } nt' ⟨fr0, b, r, nx, fr ++ l, ob, []⟩ B ⟨ok0.ok, fun t => if t < nt then a.tmps.getD t undef else ok0.sv (t - nt)⟩ w0 { tmps := (ps.zip us).foldl (fun t (q : Tmp × Value) => t.setIfInBounds q.1 q.2) rec.tmps, defers := [] } w E := by
    refine ⟨rfl, hsz, hfr0, ⟨hS.mem.bx, hS.mem.rw, hS.mem.ob⟩, hS.bb, hS.br, hS.rr, hS.fresh, hS.ok_lt, hS.ok_from, hS.ok_all, hS.hB, hS.below, hS.glob, fun t v ht => ?_, hS.od⟩
    rcases look_append ht with h1 | h1
    · obtain ⟨h2, h3⟩ := hS.fr t v h1
      simp only [h2, if_true]
      exact h3
    · obtain ⟨u, rfl, hu⟩ := hsh t v h1
      have e1 : ¬ nt + u < nt := by omega
      have e2 : nt + u - nt = u := by omega
      simp only [e1, if_false, e2]
      exact hS.svs u v hu
  have home : ∀ {s4 : AS} {c : Bool} {a4 : Act} {w4 : World} {E4 : Env}, homeK nt df s4 (K c) → Sat { C with inR := true } nt' s4 B ⟨ok0.ok, fun t => if t < nt then a.tmps.getD t undef else ok0.sv (t - nt)⟩ w0 a4 w4 E4 → R (.returned (.bool c)) w4 := by
    intro s4 c a4 w4 E4 hk hS'
    obtain ⟨fr2, b2, r2, n2, sv2, ob2, df2⟩ := s4
    obtain ⟨fr', sv', hk, h1, h2⟩ := restoreK_sound hk
    refine hR c _ w4 E4 hk ?_
    refine ⟨hS.defs, hS.size, fun t v ht => ?_, ⟨hS'.mem.bx, hS'.mem.rw, hS'.mem.ob⟩, hS'.bb, hS'.br, hS'.rr, hS'.fresh, hS'.ok_lt, hS'.ok_from, hS'.ok_all, hS'.hB, hS'.below, hS'.glob, fun t v ht => ?_, hS'.od⟩
    · obtain ⟨h3, h4⟩ := h1 t v ht
      have := hS'.svs t v h4
      simp only [h3, if_true] at this
      exact ⟨h3, this⟩
    · have := hS'.svs (t + nt) v (h2 t v ht)
      have e1 : ¬ t + nt < nt := by omega
      simp only [e1, if_false, Nat.add_sub_cancel] at this
      exact this
  refine (codeK_sound hC' h).wp (F.inRound g) m hFW B _ w0 _ w E _ hS1 (fun e s1 a1 w1 E1 hq hS1 => ?_)
  cases e with
  | ret => exact hq.elim
  | exit i => exact hq.elim
  | normal =>
    obtain ⟨s2, h2, ht2⟩ := turnK_sound hq
    obtain ⟨rec1, hz1, hst1, hto⟩ := ht2 hS1
    refine ⟨_, run_beginRound hz1 hst1.1, ?_⟩
    have hS2 := hto { rec1 with state := .busy } rfl rfl rfl rfl rfl
    refine h2.wp (F.inRound g) m hFW B _ w0 _ _ E1 _ hS2 (fun e s3 a3 w3 E3 hq hS3 => ?_)
    cases e with
    | normal =>
      obtain ⟨s4, h4, ht4⟩ := turnK_sound hq
      obtain ⟨rec3, hz3, hst3, hto⟩ := ht4 hS3
      exact ⟨_, _, run_endRound none hz3, home h4 (hto { rec3 with state := .ready, pending := none } rfl rfl rfl rfl ⟨rfl, rfl⟩)⟩
    | ret =>
      obtain ⟨s4, h4, ht4⟩ := turnK_sound hq
      obtain ⟨rec3, hz3, hst3, hto⟩ := ht4 hS3
      exact ⟨_, _, run_endRound (some .ret) hz3, home h4 (hto { rec3 with state := .done, pending := some .ret } rfl rfl rfl rfl ⟨rfl, rfl⟩)⟩
    | exit i =>
      obtain ⟨s4, h4, ht4⟩ := turnK_sound hq
      obtain ⟨rec3, hz3, hst3, hto⟩ := ht4 hS3
      exact ⟨_, _, run_endRound (some (.exit i)) hz3, home h4 (hto { rec3 with state := .done, pending := some (.exit i) } rfl rfl rfl rfl ⟨rfl, rfl⟩)⟩
end Go.Proofs.Ab
end
section
/- A row within a variable, another content of a row; a way out through states that tell less. -/
set_option linter.unusedVariables false
set_option linter.unusedSimpArgs false
namespace Go.Proofs.Ab
open Go Go.RowKit

/-- What is asked at the end may be asked of a state that tells less. -/
theorem AWp.post {C : Cx} {nt : Nat} {s : AS} {c : Code} {Q : Out → AS → Prop} (h : AWp C nt c (fun e s' => ∃ t, SLe C nt s' t ∧ Q e t) s) : AWp C nt c Q s :=
  ⟨fun F n hF B ok0 w0 a w E R hS hR => h.wp F n hF B ok0 w0 a w E R hS fun e s' a' w' E' ⟨t, hle, hq⟩ hS' => let ⟨E2, hS2⟩ := hle.le hS'; hR e t a' w' E2 hq hS2⟩
/-- One piece of code, then the other, over a state in between. -/
theorem AWp.mid {C : Cx} {nt : Nat} {s : AS} {c d : Code} {Q : Out → AS → Prop} (t : AS) (h1 : AWp C nt d Q t) (h2 : AWp C nt c (fun e s' => match e with | .normal => SLe C nt s' t | e => Q e s') s) : AWp C nt (.seq c d) Q s :=
  .seq (h2.mono fun e s' hq => by
    cases e with
    | normal => exact .le hq h1
    | ret => exact hq
    | exit i => exact hq)
/-- A nil slice in a variable is a row without elements. -/
def rowHK (s : AS) (n e sz : Nat) (K : AS → Prop) : Prop := match s with
  | ⟨f, b, r, nx, v, ob, d⟩ => lookK ob n fun o => match o with
    | .hold g T (.p (.v (.slice none 0 0))) => setObK ob n (.hold g T (.own nx)) fun ob' => K ⟨f, b, (nx, (e, sz, [])) :: r, nx + 1, v, ob', d⟩
    | _ => False
/-- .. in one of a variable's cells. -/
def rowHsK (s : AS) (n off e sz : Nat) (K : AS → Prop) : Prop := match s with
  | ⟨f, b, r, nx, v, ob, d⟩ => lookK ob n fun o => match o with
    | .hst g T nc sn => lookK sn off fun x => match x with
      | .p (.v (.slice none 0 0)) => eraseK sn off fun sn' => setObK ob n (.hst g T nc ((off, .own nx) :: sn')) fun ob' => K ⟨f, b, (nx, (e, sz, [])) :: r, nx + 1, v, ob', d⟩
      | _ => False
    | _ => False
theorem putObj_self {w : World} {g : Nat} {o : Obj} (h : w.heap[g]? = some o) : w.putObj g o = w := by
  have hlt := (Array.getElem?_eq_some_iff.1 h).1
  have he := (Array.getElem?_eq_some_iff.1 h).2
  unfold World.putObj
  rw [Array.setIfInBounds_def, dif_pos hlt, ← he, Array.set_getElem_self]
theorem SLe.rowH {C : Cx} {nt : Nat} {s u : AS} (n e sz : Nat) (hp : rowHK s n e sz fun s' => SLe C nt s' u) : SLe C nt s u := by
  obtain ⟨fr, bx, rw_, nx, sv, ob, df⟩ := s
  unfold rowHK at hp
  dsimp only at hp
  obtain ⟨o, ho, h2⟩ := lookK_sound hp
  clear hp
  split at h2
  case h_2 => exact h2.elim
  rename_i g T
  obtain ⟨ob', hk, hself, hother⟩ := setObK_sound h2
  refine ⟨fun {B ok0 w0 a w E} h => ?_⟩
  obtain ⟨E', hle, hs, hh, hS⟩ := h.row (e := e) (sz := sz) (ys := []) (vs := []) (v := .slice none 0 0) (v' := .slice none 0 0) (w' := w) (rw' := rw_)
    (fun m x hm => ⟨hm, fun k hk => by cases hkb : k.ownBlock with
      | none => exact .inl rfl
      | some b => exact .inr (by simp [Value.ownBlock])⟩)
    (fun n x g _ _ => by simp [Value.ownBlock]) (fun g hg => by simp [Value.ownBlock] at hg) (fun g hg => by simp [Value.ownBlock] at hg) ⟨rfl, rfl, rfl, Nat.le_refl _, fun _ _ _ => rfl⟩ (World.ownsRow_nil w B e sz) (by simp) .nil (.inl rfl) (fun _ _ _ => by simp [Value.ownBlock])
  obtain ⟨_, _, z, hz, hzh, v, hv, hze⟩ := hS.mem.ob n _ ho
  have hv' := v_inv hv
  subst hv'
  have hz' : w.heap[g]? = some (.cells #[.slice none 0 0] T (0, 0)) := by rw [← hze]; exact hz
  have := hS.setOb (o := .cells #[.slice none 0 0] T (0, 0)) ho (ob' := ob') (fun y hy2 => by rw [hself] at hy2; injection hy2 with hy2; rw [← hy2]; rfl) (fun y hy2 => by
    rw [hself] at hy2
    injection hy2 with hy2
    rw [← hy2]
    exact ⟨rfl, .slice none 0 0, hs, rfl⟩) (fun m hm y hy2 => by rw [hother m hm] at hy2; exact hy2)
  have e1 : w.putObj (Ob.blk (.hold g T (.p nilS))) (.cells #[.slice none 0 0] T (0, 0)) = w := putObj_self hz'
  rw [e1] at this
  exact hk.le this

theorem SLe.rowHs {C : Cx} {nt : Nat} {s u : AS} (n off e sz : Nat) (hp : rowHsK s n off e sz fun s' => SLe C nt s' u) : SLe C nt s u := by
  obtain ⟨fr, bx, rw_, nx, sv, ob, df⟩ := s
  unfold rowHsK at hp
  dsimp only at hp
  obtain ⟨o, ho, h2⟩ := lookK_sound hp
  clear hp
  split at h2
  case h_2 => exact h2.elim
  rename_i g T nc sn
  obtain ⟨x, hx, h2⟩ := lookK_sound h2
  split at h2
  case h_2 => exact h2.elim
  obtain ⟨sn', h2, hsn'⟩ := eraseK_sound h2
  obtain ⟨ob', hk, hself, hother⟩ := setObK_sound h2
  refine ⟨fun {B ok0 w0 a w E} h => ?_⟩
  obtain ⟨E', hle, hs, hh, hS⟩ := h.row (e := e) (sz := sz) (ys := []) (vs := []) (v := .slice none 0 0) (v' := .slice none 0 0) (w' := w) (rw' := rw_)
    (fun m x hm => ⟨hm, fun k hk => by cases hkb : k.ownBlock with
      | none => exact .inl rfl
      | some b => exact .inr (by simp [Value.ownBlock])⟩)
    (fun n x g _ _ => by simp [Value.ownBlock]) (fun g hg => by simp [Value.ownBlock] at hg) (fun g hg => by simp [Value.ownBlock] at hg) ⟨rfl, rfl, rfl, Nat.le_refl _, fun _ _ _ => rfl⟩ (World.ownsRow_nil w B e sz) (by simp) .nil (.inl rfl) (fun _ _ _ => by simp [Value.ownBlock])
  obtain ⟨_, _, z, hz, hzh, us, hus, hze, hsn⟩ := hS.mem.ob n _ ho
  have hz' : w.heap[g]? = some (.cells us.toArray T (0, 0)) := by rw [← hze]; exact hz
  obtain ⟨hlt, hcell⟩ := hsn off _ hx
  have hv' := v_inv hcell
  have := hS.setOb (o := .cells us.toArray T (0, 0)) ho (ob' := ob') (fun y hy2 => by rw [hself] at hy2; injection hy2 with hy2; rw [← hy2]; rfl) (fun y hy2 => by
    rw [hself] at hy2
    injection hy2 with hy2
    rw [← hy2]
    refine ⟨rfl, us, hus, rfl, fun t v hv => ?_⟩
    by_cases e2 : off = t
    · subst e2
      rw [look_cons_self] at hv
      injection hv with hv
      subst hv
      refine ⟨hlt, ?_⟩
      rw [hv']
      exact hs
    · rw [look_cons_ne e2] at hv
      exact hsn t v (hsn' t (Ne.symm e2) v hv)) (fun m hm y hy2 => by rw [hother m hm] at hy2; exact hy2)
  have e1 : w.putObj (Ob.blk (.hst g T nc sn)) (.cells us.toArray T (0, 0)) = w := putObj_self hz'
  rw [e1] at this
  exact hk.le this

section
variable {C : Cx} {nt : Nat} {s : AS} {B : Nat} {ok0 : Base} {w0 : World} {a : Act} {w w' : World} {E : Env}
/-- A row has another content now; beside it the world has grown. -/
theorem Sat.reRow (h : Sat C nt s B ok0 w0 a w E) {m e sz : Nat} {xs xs' : List (List PV)} {v : Value} {us' : List Value} (hm : look s.rw m = some (e, sz, xs)) (hv : E.ν m = some v)
    (hg : w.grownBy w' v.ownBlock) (hown' : w'.ownsRow B e sz v xs'.length us') (hsz : ∀ x ∈ xs', x.length = sz) (hr : RepL w E.ok xs'.flatten us') {rw' : List (Nat × (Nat × Nat × List (List PV)))}
    (hself : look rw' m = some (e, sz, xs')) (hother : ∀ k, k ≠ m → look rw' k = look s.rw k) : Sat C nt { s with rw := rw' } B ok0 w0 a w' E := by
  obtain ⟨v1, us, hv1, hown, hsz0, hr0, hok⟩ := h.mem.rw m e sz xs hm
  rw [hv] at hv1
  injection hv1 with hv1
  subst hv1
  have hh : ∀ b, E.ok b → w'.heap[b]? = w.heap[b]? := fun b hk => hg.block b (h.ok_lt b hk) (fun e => hok b e.symm hk)
  have hle : E.Le E := ⟨fun _ h => h, fun _ _ h => h, fun _ _ h => h⟩
  have look_of : ∀ k x, look rw' k = some x → ∃ y, look s.rw k = some y := fun k x hk => by
    by_cases e2 : k = m
    · subst e2; exact ⟨_, hm⟩
    · rw [hother k e2] at hk; exact ⟨_, hk⟩
  refine ⟨h.defs, h.size, fun t v hv => ⟨(h.fr t v hv).1, (h.fr t v hv).2.ext hle hh⟩, ⟨?_, ?_, obs_ext h.mem.ob hle hh (fun _ _ _ _ _ hn => hn) (fun i o hi x hx => (hg.block _ (Array.getElem?_eq_some_iff.1 hx).1 (fun e => h.od.ro m i _ o v hm hi hv e.symm)).trans hx)⟩, h.bb, ?_, ?_, h.fresh, fun b hk => Nat.lt_of_lt_of_le (h.ok_lt b hk) hg.size, h.ok_from, h.ok_all, h.hB, h.below.grown hg h.size_le (fun k hk => (hown.lt k hk).1), h.glob.ext (fun _ h => h) hh, fun t v hv => (h.svs t v hv).ext hle hh, ⟨h.od.oo, h.od.bo, fun k i x y v hk hi hv2 => let ⟨y', hy'⟩ := look_of k x hk; h.od.ro k i y' y v hy' hi hv2⟩⟩
  · intro n T cs hn
    obtain ⟨g, us2, hgn, hBg, hok2, hgg, hr2⟩ := h.mem.bx n T cs hn
    exact ⟨g, us2, hgn, hBg, hok2, (hg.block g (Array.getElem?_eq_some_iff.1 hgg).1 (fun e => h.br n m _ _ g v hn hm hgn hv e.symm)).trans hgg, hr2.ext hle.ok hh⟩
  · intro k e2 sz2 ys hk
    by_cases e3 : k = m
    · subst e3
      rw [hself] at hk
      injection hk with hk
      injection hk with h1 h2
      injection h2 with h2 h3
      subst h1; subst h2; subst h3
      exact ⟨v, us', hv, hown', hsz, hr.ext (fun _ h => h) hh, hok⟩
    · rw [hother k e3] at hk
      obtain ⟨v2, us2, hv2, ho2, hsz2, hr2, hok2⟩ := h.mem.rw k e2 sz2 ys hk
      refine ⟨v2, us2, hv2, ho2.kept hg ?_, hsz2, hr2.ext (fun _ h => h) hh, hok2⟩
      cases hb : v2.ownBlock with
      | none => exact .inl rfl
      | some b => exact .inr (fun he => e3 (h.rr k m _ _ b v2 v hk hm hv2 hv hb he.symm))
  · intro n k x y b v2 hn hk hb hv2
    obtain ⟨y', hy'⟩ := look_of k y hk
    exact h.br n k x y' b v2 hn hy' hb hv2
  · intro n k x y b v2 v3 hn hk hv2 hv3 hb hb'
    obtain ⟨x', hx'⟩ := look_of n x hn
    obtain ⟨y', hy'⟩ := look_of k y hk
    exact h.rr n k x' y' b v2 v3 hx' hy' hv2 hv3 hb hb'
end
end Go.Proofs.Ab
end
section
/- What comes in, read as data, stands for pure values; a law's contract becomes the row's. -/
set_option linter.unusedVariables false
set_option linter.unusedSimpArgs false
namespace Go.Proofs.Ab
open Go Go.RowKit

/-- The shape of a cell: a whole number, a truth value, a string, a slice of rows. -/
inductive Sh where
  | int (k : IntKind) | bool | str | sl (el : List Sh)
  deriving Inhabited
inductive Fit : Sh → PV → Prop
  | int (k : IntKind) (n : Int) (h : (Lit.int k n).wf = true) : Fit (.int k) (.v (.int k n))
  | bool (b : Bool) : Fit .bool (Bo b)
  | str (s : ByteArray) (h : s.size ≤ maxLen) : Fit .str (St s)
  | sl (el : List Sh) (xs : List (List PV)) (h : xs.length ≤ maxLen) (hl : ∀ x ∈ xs, x.length = el.length)
      (hx : ∀ x ∈ xs, ∀ (j : Nat) (c : PV) (s : Sh), x[j]? = some c → el[j]? = some s → Fit s c) : Fit (.sl el) (.seq el.length xs)
def FitL (sh : List Sh) (ps : List PV) : Prop := ps.length = sh.length ∧ ∀ (j : Nat) (c : PV) (s : Sh), ps[j]? = some c → sh[j]? = some s → Fit s c
theorem FitL.nil : FitL [] [] := ⟨rfl, fun j c s h => by simp at h⟩
theorem FitL.one {s : Sh} {c : PV} (h : Fit s c) : FitL [s] [c] := ⟨rfl, fun j c' s' hc hs => by
  cases j with
  | zero => simp at hc hs; subst hc; subst hs; exact h
  | succ j => simp at hc⟩
theorem FitL.append {a b : List Sh} {ps qs : List PV} (h : FitL a ps) (k : FitL b qs) : FitL (a ++ b) (ps ++ qs) := by
  refine ⟨by simp [h.1, k.1], fun j c s hc hs => ?_⟩
  by_cases hj : j < a.length
  · rw [List.getElem?_append_left (by rw [h.1]; exact hj)] at hc
    rw [List.getElem?_append_left hj] at hs
    exact h.2 j c s hc hs
  · rw [List.getElem?_append_right (by rw [h.1]; omega)] at hc
    rw [List.getElem?_append_right (by omega)] at hs
    rw [h.1] at hc
    exact k.2 _ c s hc hs
theorem FitL.uncons {s : Sh} {sh : List Sh} {ps : List PV} (h : FitL (s :: sh) ps) : ∃ c ps', ps = c :: ps' ∧ Fit s c ∧ FitL sh ps' := by
  cases ps with
  | nil => have := h.1; simp at this
  | cons c ps => exact ⟨c, ps, rfl, h.2 0 c s rfl rfl, by have := h.1; simpa using this, fun j c' s' hc hs => h.2 (j + 1) c' s' (by simpa using hc) (by simpa using hs)⟩
theorem FitL.unnil {ps : List PV} (h : FitL [] ps) : ps = [] := List.eq_nil_of_length_eq_zero (by simpa using h.1)
theorem Fit.int_inv {k : IntKind} {c : PV} (h : Fit (.int k) c) : ∃ n, c = .v (.int k n) ∧ (Lit.int k n).wf = true := by
  cases h with
  | int _ n h => exact ⟨n, rfl, h⟩
theorem Fit.str_inv {c : PV} (h : Fit .str c) : ∃ s, c = St s ∧ s.size ≤ maxLen := by
  cases h with
  | str s h => exact ⟨s, rfl, h⟩
theorem Fit.sl_inv {el : List Sh} {c : PV} (h : Fit (.sl el) c) : ∃ xs, c = .seq el.length xs ∧ xs.length ≤ maxLen ∧ ∀ x ∈ xs, FitL el x := by
  cases h with
  | sl _ xs h hl hx => exact ⟨xs, rfl, h, fun x hm => ⟨hl x hm, hx x hm⟩⟩

def catF (g : Nat → Option (List Sh)) (size : Nat → Nat) : List (Nat × Nat) → Nat → Option (List Sh)
  | [], _ => some []
  | (o, t) :: r, k => match g t with
    | some l => bif Nat.beq o k && Nat.beq (size t) l.length then (match catF g size r (k + l.length) with | some l' => some (l ++ l') | none => none) else none
    | none => none
/-- The shape of a type's cells. -/
def shapeF (P : Program) : Nat → TypeId → Option (List Sh)
  | 0, _ => none
  | n + 1, t => match P.underlying t with
    | some .bool => some [.bool]
    | some (.int k) => some [.int k]
    | some .string => some [.str]
    | some (.slice e) => match shapeF P n e with
      | some el => bif Nat.beq (P.cellsOf e) el.length && !Nat.beq el.length 0 then some [.sl el] else none
      | none => none
    | some (.struct fs) => match catF (shapeF P n) P.cellsOf (fs.toList.map fun f => (f.offset, f.type)) 0 with
      | some l => bif Nat.beq (P.cellsOf t) l.length then some l else none
      | none => none
    | some (.array m e) => match catF (shapeF P n) P.cellsOf ((List.range m).map fun i => (i * P.cellsOf e, e)) 0 with
      | some l => bif Nat.beq (P.cellsOf t) l.length then some l else none
      | none => none
    | _ => none

theorem list_of {α : Type} {p : Nat → α → Prop} : ∀ {n : Nat}, (∀ i, i < n → ∃ y, p i y) → ∃ l : List α, l.length = n ∧ ∀ i y, l[i]? = some y → p i y
  | 0, _ => ⟨[], rfl, fun i y h => by simp at h⟩
  | n + 1, h => by
    obtain ⟨l, hl, hp⟩ := list_of (n := n) fun i hi => h i (by omega)
    obtain ⟨y, hy⟩ := h n (by omega)
    refine ⟨l ++ [y], by simp [hl], fun i z hz => ?_⟩
    by_cases hi : i < n
    · rw [List.getElem?_append_left (by omega)] at hz
      exact hp i z hz
    · rw [List.getElem?_append_right (by omega)] at hz
      have h0 : i = n := by
        have := (List.getElem?_eq_some_iff.1 hz).1
        simp at this
        omega
      subst h0
      rw [hl] at hz
      simp at hz
      exact hz ▸ hy
theorem RepL.flatten {w : World} {ok : Nat → Prop} : ∀ {xs : List (List PV)} {us : List (List Value)}, us.length = xs.length → (∀ (i : Nat) (x : List PV) (u : List Value), xs[i]? = some x → us[i]? = some u → RepL w ok x u) → RepL w ok xs.flatten us.flatten
  | [], [], _, _ => RepL.nil
  | x :: xs, u :: us, hl, h => by
    simp only [List.flatten_cons]
    exact (h 0 x u rfl rfl).append (RepL.flatten (by simpa using hl) fun i x' u' hx hu => h (i + 1) x' u' (by simpa using hx) (by simpa using hu))
  | [], _ :: _, hl, _ => by simp at hl
  | _ :: _, [], hl, _ => by simp at hl

section
variable {H : Type} {enc : TypeId × Value → H} {P : Program} {w : World} {spare : Nat → Bool} {held : Bool}
theorem cells_some {a : Addr} {n : Nat} {us : List Value} (h : w.cells? 0 a n = some us) : us.length = n ∧ ∀ j u, us[j]? = some u → w.cell? (a.add j) = some u := by
  unfold World.cells? at h
  rw [if_pos (Nat.zero_le _)] at h
  refine ⟨by simpa using mapM_some_length h, fun j u hu => ?_⟩
  have hj : j < n := by
    have h1 := mapM_some_length h
    have h2 := (List.getElem?_eq_some_iff.1 hu).1
    simp at h1
    omega
  rw [← hu]
  exact mapM_some_get h j j (by simp [hj])
theorem add_add (a : Addr) (m n : Nat) : (a.add m).add n = a.add (m + n) := by
  unfold Addr.add
  by_cases hm : m = 0 <;> by_cases hn : n = 0 <;> simp [hm, hn, Nat.add_assoc]
theorem cells_flat {a : Addr} {c : Nat} : ∀ {us : List (List Value)} {s : Nat}, (∀ i u, us[i]? = some u → w.cells? 0 (a.add ((s + i) * c)) c = some u) → ∀ j u, us.flatten[j]? = some u → w.cell? (a.add (s * c + j)) = some u
  | [], s, h, j, u, hu => by simp at hu
  | v :: us, s, h, j, u, hu => by
    have h0 := cells_some (by have := h 0 v rfl; simpa using this)
    rw [List.flatten_cons] at hu
    by_cases hj : j < v.length
    · rw [List.getElem?_append_left hj] at hu
      have := h0.2 j u hu
      rwa [add_add] at this
    · rw [List.getElem?_append_right (by omega)] at hu
      have := cells_flat (us := us) (s := s + 1) (fun i x hx => by
        have := h (i + 1) x (by simpa using hx)
        rwa [show s + (i + 1) = s + 1 + i by omega] at this) (j - v.length) u hu
      rw [h0.1] at this hj
      rw [Nat.add_mul, Nat.one_mul] at this
      rwa [show s * c + c + (j - c) = s * c + j by omega] at this
theorem cell_spot {a : Addr} {v : Value} (h : w.cell? a = some v) : a.spot = none ∧ a.block < w.heap.size := by
  unfold World.cell? at h
  cases hh : w.heap[a.block]? with
  | none => rw [hh] at h; cases h
  | some o =>
    rw [hh] at h
    refine ⟨?_, (Array.getElem?_eq_some_iff.1 hh).1⟩
    cases o with
    | cells c t f =>
      simp only at h
      cases hs : a.spot with
      | none => rfl
      | some k => rw [hs] at h; simp at h
    | _ => cases h
theorem add_plain {a : Addr} (h : a.spot = none) (j : Nat) : a.add j = ⟨a.block, a.off + j, none⟩ := by
  unfold Addr.add
  by_cases hj : j = 0
  · subst hj; rw [if_pos rfl]; cases a; simp at h; simp [h]
  · rw [if_neg hj]

theorem open_cat {g : Nat → Option (List Sh)} {size : Nat → Nat} {ok : Nat → Prop} {cs : List Value} : ∀ {l : List (Nat × Nat)} {k : Nat} {sh : List Sh}, catF g size l k = some sh →
    (∀ (i o t : Nat), l[i]? = some (o, t) → ∀ s, g t = some s → ∃ ps, FitL s ps ∧ RepL w ok ps ((cs.drop o).take (size t))) → ∃ ps, FitL sh ps ∧ RepL w ok ps ((cs.drop k).take sh.length)
  | [], k, sh, h, _ => by
    simp only [catF, Option.some.injEq] at h
    subst h
    exact ⟨[], FitL.nil, by simp; exact RepL.nil⟩
  | (o, t) :: l, k, sh, h, hr => by
    unfold catF at h
    cases hg : g t with
    | none => rw [hg] at h; cases h
    | some s =>
      rw [hg] at h
      simp only at h
      cases hb : (Nat.beq o k && Nat.beq (size t) s.length) with
      | false => rw [hb] at h; cases h
      | true =>
        rw [hb] at h
        simp only [cond_true] at h
        rw [Bool.and_eq_true] at hb
        have h1 := Nat.eq_of_beq_eq_true hb.1
        have h2 := Nat.eq_of_beq_eq_true hb.2
        cases hc : catF g size l (k + s.length) with
        | none => rw [hc] at h; cases h
        | some s' =>
          rw [hc] at h
          simp only [Option.some.injEq] at h
          subst h
          obtain ⟨ps, hf, hrep⟩ := hr 0 o t rfl s hg
          obtain ⟨qs, hf', hrep'⟩ := open_cat hc fun i o' t' hi => hr (i + 1) o' t' (by simpa using hi)
          refine ⟨ps ++ qs, hf.append hf', ?_⟩
          rw [h1, h2] at hrep
          rw [List.length_append, List.take_add, List.drop_drop]
          exact hrep.append hrep'

theorem open_shape : ∀ {n : Nat} {t : TypeId} {sh : List Sh} {fuel : Nat} {cs : List Value} {x : DataW H × List MemPlace}, shapeF P n t = some sh → DataW.trod enc P w 0 spare held fuel t cs = some x →
    ∃ ps, FitL sh ps ∧ RepL w (fun b => b < w.heap.size) ps cs
  | 0, t, sh, fuel, cs, x, hs, h => by cases hs
  | n + 1, t, sh, fuel, cs, x, hs, h => by
    unfold shapeF at hs
    split at hs
    · rename_i hu
      obtain ⟨b, rfl, _⟩ := DataW.trod_bool hu h
      cases hs
      exact ⟨[Bo b], .one (.bool b), RepL.cons (.v _) .nil⟩
    · rename_i k hu
      obtain ⟨m, rfl, _, hw⟩ := DataW.trod_int hu h
      cases hs
      exact ⟨[.v (.int k m)], .one (.int k m hw), RepL.cons (.v _) .nil⟩
    · rename_i hu
      obtain ⟨s, rfl, _, hw⟩ := DataW.trod_string hu h
      cases hs
      exact ⟨[St s], .one (.str s hw), RepL.cons (.v _) .nil⟩
    · rename_i e hu
      cases he : shapeF P n e with
      | none => rw [he] at hs; cases hs
      | some el =>
        rw [he] at hs
        simp only at hs
        cases hb : (Nat.beq (P.cellsOf e) el.length && !Nat.beq el.length 0) with
        | false => rw [hb] at hs; cases hs
        | true =>
          rw [hb] at hs
          simp only [cond_true, Option.some.injEq] at hs
          subst hs
          rw [Bool.and_eq_true] at hb
          have h1 := Nat.eq_of_beq_eq_true hb.1
          have h2 : el.length ≠ 0 := fun e0 => by rw [e0] at hb; exact absurd hb.2 (by decide)
          rcases DataW.trod_slice hu h with ⟨rfl, _⟩ | ⟨a, len, cap, elems, rest, m, _, rfl, _, _, hlc, hcm, hlen, hel, _, _⟩
          · refine ⟨[.seq el.length []], .one (.sl el [] (Nat.zero_le _) (by simp) (by simp)), RepL.cons ?_ .nil⟩
            exact Rep.nil_seq (.v _)
          · have each : ∀ i, i < len → ∃ y : List PV × List Value, FitL el y.1 ∧ w.cells? 0 (a.add ((0 + i) * P.cellsOf e)) (P.cellsOf e) = some y.2 ∧ RepL w (fun b => b < w.heap.size) y.1 y.2 := by
              intro i hi
              have h3 := hel i hi
              rw [List.getElem?_eq_getElem (by omega)] at h3
              obtain ⟨cs', h4, h5⟩ := Option.bind_eq_some_iff.1 h3
              obtain ⟨ps, hf, hr⟩ := open_shape he h5
              exact ⟨(ps, cs'), hf, by rw [Nat.zero_add]; exact h4, hr⟩
            obtain ⟨l, hl, hp⟩ := list_of each
            have hfl : ∀ i x, (l.map Prod.fst)[i]? = some x → FitL el x := fun i x hx => by
              rw [List.getElem?_map] at hx
              cases hy : l[i]? with
              | none => rw [hy] at hx; cases hx
              | some y => rw [hy] at hx; simp at hx; subst hx; exact (hp i y hy).1
            have hfm : ∀ x ∈ l.map Prod.fst, FitL el x := fun x hx => by
              obtain ⟨i, hi⟩ := List.getElem?_of_mem hx
              exact hfl i x hi
            have hcells : ∀ i u, (l.map Prod.snd)[i]? = some u → w.cells? 0 (a.add ((0 + i) * P.cellsOf e)) (P.cellsOf e) = some u := fun i u hx => by
              rw [List.getElem?_map] at hx
              cases hy : l[i]? with
              | none => rw [hy] at hx; cases hx
              | some y => rw [hy] at hx; simp at hx; subst hx; exact (hp i y hy).2.1
            have hrep : RepL w (fun b => b < w.heap.size) (l.map Prod.fst).flatten (l.map Prod.snd).flatten := by
              refine RepL.flatten (by simp) fun i x u hx hu => ?_
              rw [List.getElem?_map] at hx hu
              cases hy : l[i]? with
              | none => rw [hy] at hx; cases hx
              | some y => rw [hy] at hx hu; simp at hx hu; subst hx; subst hu; exact (hp i y hy).2.2
            have hflat := cells_flat (us := l.map Prod.snd) (s := 0) hcells
            refine ⟨[.seq el.length (l.map Prod.fst)], .one (.sl el _ (by simp [hl]; omega) (fun x hx => (hfm x hx).1) (fun x hx => (hfm x hx).2)), RepL.cons ?_ .nil⟩
            refine .seq el.length (l.map Prod.fst) (some a) len cap (l.map Prod.snd).flatten (by simp [hl]) hlc hcm (fun x hx => (hfm x hx).1) hrep.1 hrep.2 (fun hp0 => ?_)
            have hlen0 : (l.map Prod.snd).flatten.length = (l.map Prod.fst).flatten.length := hrep.1
            have hpos : 0 < (l.map Prod.snd).flatten.length := by
              rw [hlen0]
              cases hq : l.map Prod.fst with
              | nil => have : (l.map Prod.fst).length = 0 := by rw [hq]; rfl
                       simp [hl] at this; omega
              | cons x xs =>
                have := (hfm x (by rw [hq]; exact List.mem_cons_self)).1
                rw [List.flatten_cons, List.length_append]
                omega
            have hc0 := hflat 0 _ (List.getElem?_eq_getElem hpos)
            rw [Nat.zero_mul, Nat.zero_add] at hc0
            obtain ⟨hs, hblk⟩ := cell_spot hc0
            have e0 : a.add 0 = a := by simp [Addr.add]
            rw [e0] at hs hblk
            refine ⟨a.block, a.off, by cases a; simp at hs; simp [hs], hblk, fun j u hu => ?_⟩
            have := hflat j u hu
            rwa [Nat.zero_mul, Nat.zero_add, add_plain hs] at this
    · rename_i fs hu
      cases hc : catF (shapeF P n) P.cellsOf (fs.toList.map fun f => (f.offset, f.type)) 0 with
      | none => rw [hc] at hs; cases hs
      | some l =>
        rw [hc] at hs
        simp only at hs
        cases hb : Nat.beq (P.cellsOf t) l.length with
        | false => rw [hb] at hs; cases hs
        | true =>
          rw [hb] at hs
          simp only [cond_true, Option.some.injEq] at hs
          subst hs
          have h1 := Nat.eq_of_beq_eq_true hb
          obtain ⟨xs, m, _, _, hlen, hxs, hel⟩ := DataW.trod_struct hu h
          obtain ⟨ps, hf, hr⟩ := open_cat (w := w) (ok := fun b => b < w.heap.size) (cs := cs) hc fun i o t' hi s hg => by
            rw [List.getElem?_map] at hi
            cases hy : fs.toList[i]? with
            | none => rw [hy] at hi; cases hi
            | some f =>
              rw [hy] at hi
              simp at hi
              obtain ⟨rfl, rfl⟩ := hi
              have h3 := hel i f (by simpa using hy)
              have hi' : i < xs.length := by
                have := (List.getElem?_eq_some_iff.1 hy).1
                simp at this
                omega
              rw [List.getElem?_eq_getElem hi'] at h3
              exact open_shape hg h3
          rw [List.drop_zero, ← h1, ← hlen, List.take_length] at hr
          exact ⟨ps, hf, hr⟩
    · rename_i m e hu
      cases hc : catF (shapeF P n) P.cellsOf ((List.range m).map fun i => (i * P.cellsOf e, e)) 0 with
      | none => rw [hc] at hs; cases hs
      | some l =>
        rw [hc] at hs
        simp only at hs
        cases hb : Nat.beq (P.cellsOf t) l.length with
        | false => rw [hb] at hs; cases hs
        | true =>
          rw [hb] at hs
          simp only [cond_true, Option.some.injEq] at hs
          subst hs
          have h1 := Nat.eq_of_beq_eq_true hb
          obtain ⟨xs, k, _, _, hlen, hxs, hel⟩ := DataW.trod_array hu h
          obtain ⟨ps, hf, hr⟩ := open_cat (w := w) (ok := fun b => b < w.heap.size) (cs := cs) hc fun i o t' hi s hg => by
            rw [List.getElem?_map] at hi
            cases hy : (List.range m)[i]? with
            | none => rw [hy] at hi; cases hi
            | some f =>
              rw [hy] at hi
              simp at hi
              obtain ⟨hi1, hi2⟩ := hi
              have h4 := List.getElem?_eq_some_iff.1 hy
              obtain ⟨h5, h6⟩ := h4
              simp at h5 h6
              subst h6
              have h3 := hel i h5
              rw [List.getElem?_eq_getElem (by omega)] at h3
              subst hi1; subst hi2
              exact open_shape hg h3
          rw [List.drop_zero, ← h1, ← hlen, List.take_length] at hr
          exact ⟨ps, hf, hr⟩
    · cases hs
end
/-! ### The row's post out of a contract -/
section
variable {H : Type} {enc : TypeId × Value → H} {P : Program}
theorem trodAll_stays (hl : laidOutB P = true) {W W' : World} (hb : Below W.heap.size W W') : ∀ {ts : List TypeId} {vs : List Value} {ds : List (DataW H)} {ps : List MemPlace},
    (∀ t ∈ ts, P.readableRec t = true ∧ t < P.types.size) → DataW.TrodAll enc P W 0 (fun _ => true) true ts vs ds ps → (∀ x ∈ ps, x.block < W.heap.size) →
    DataW.TrodAll enc P W' 0 (fun b => decide (b < W.heap.size)) true ts vs ds ps
  | [], [], [], _, _, h, _ => h
  | t :: ts, v :: vs, d :: ds, ps, hr, h, hlt => by
    obtain ⟨p, q, h1, h2, rfl⟩ := h
    exact ⟨p, q, Below.trod hl (hr t List.mem_cons_self).1 (hr t List.mem_cons_self).2 h1 hb fun x hx => hlt x (List.mem_append_left _ hx),
      trodAll_stays hl hb (fun t ht => hr t (List.mem_cons_of_mem _ ht)) h2 fun x hx => hlt x (List.mem_append_right _ hx), rfl⟩
  | [], [], _ :: _, _, _, h, _ => h.elim
  | [], _ :: _, _, _, _, h, _ => h.elim
  | _ :: _, [], _, _, _, h, _ => h.elim
  | _ :: _, _ :: _, [], _, _, h, _ => h.elim
/-- A parameter's shape: whether it is a struct or an array, and its cells. -/
def paramF (P : Program) (n : Nat) (t : TypeId) : Option (Bool × List Sh) := match P.underlying t with
  | some (.struct _) | some (.array _ _) => (shapeF P n t).map fun s => (true, s)
  | some .bool | some (.int _) | some .string | some (.slice _) => (shapeF P n t).map fun s => (false, s)
  | _ => none
def FitP : Bool × List Sh → PV → Prop
  | (true, sh), p => ∃ xs, p = .agg xs ∧ FitL sh xs
  | (false, sh), p => FitL sh [p]
theorem open_param {w : World} {spare : Nat → Bool} {held : Bool} {r : Go.Reach} {base n : Nat} {t : TypeId} {v : Value} {d : DataW H} {ps : List MemPlace} {s : Bool × List Sh}
    (hs : paramF P n t = some s) (hval : Value.okWide P w r base t v) (hd : DataW.Trod enc P w 0 spare held t v d ps) : ∃ p, FitP s p ∧ Rep w (fun b => b < w.heap.size) p v := by
  obtain ⟨fuel, h⟩ := hd
  have one : ∀ {sh : List Sh}, shapeF P n t = some sh → s = (false, sh) → v.cells.toList = [v] → ∃ p, FitP s p ∧ Rep w (fun b => b < w.heap.size) p v := fun {sh} h1 h2 h3 => by
    obtain ⟨xs, hf, hr⟩ := open_shape h1 h
    rw [h3] at hr
    have hl := hr.1
    match xs, hl, hf, hr with
    | [x], _, hf, hr =>
      subst h2
      exact ⟨x, hf, hr.2 0 x v rfl rfl⟩
    | [], hl, _, _ => simp at hl
    | _ :: _ :: _, hl, _, _ => simp at hl
  have agg : ∀ {sh : List Sh}, shapeF P n t = some sh → s = (true, sh) → (∃ cs, v = .agg cs) → ∃ p, FitP s p ∧ Rep w (fun b => b < w.heap.size) p v := fun {sh} h1 h2 ⟨cs, h3⟩ => by
    subst h3
    obtain ⟨xs, hf, hr⟩ := open_shape h1 h
    subst h2
    refine ⟨.agg xs, ⟨xs, rfl, hf⟩, ?_⟩
    have hr' : RepL w (fun b => b < w.heap.size) xs cs.toList := hr
    have := Rep.agg (w := w) (ok := fun b => b < w.heap.size) xs cs.toList hr'.1 hr'.2
    simpa using this
  unfold paramF at hs
  split at hs <;> try simp only [Option.map_eq_some_iff] at hs
  · rename_i fs hu
    obtain ⟨sh, h1, h2⟩ := hs
    obtain ⟨cs, e, _⟩ := WideShapes.okWide_struct hu hval
    exact agg h1 h2.symm ⟨cs, e⟩
  · rename_i m e hu
    obtain ⟨sh, h1, h2⟩ := hs
    simp only [Value.okWide, hu] at hval
    obtain ⟨cs, e, _⟩ := hval
    exact agg h1 h2.symm ⟨cs, e⟩
  · rename_i hu
    obtain ⟨sh, h1, h2⟩ := hs
    obtain ⟨b, rfl⟩ := WideShapes.okWide_bool hu hval
    exact one h1 h2.symm rfl
  · rename_i k hu
    obtain ⟨sh, h1, h2⟩ := hs
    obtain ⟨b, rfl⟩ := WideShapes.okWide_int hu hval
    exact one h1 h2.symm rfl
  · rename_i hu
    obtain ⟨sh, h1, h2⟩ := hs
    obtain ⟨b, rfl⟩ := WideShapes.okWide_string hu hval
    exact one h1 h2.symm rfl
  · rename_i e hu
    obtain ⟨sh, h1, h2⟩ := hs
    obtain ⟨a, l, c, rfl⟩ := WideShapes.okWide_slice hu hval
    exact one h1 h2.symm rfl
  · cases hs
def FitPs (ss : List (Bool × List Sh)) (ps : List PV) : Prop := ps.length = ss.length ∧ ∀ (i : Nat) (s : Bool × List Sh) (p : PV), ss[i]? = some s → ps[i]? = some p → FitP s p
theorem FitPs.uncons {s : Bool × List Sh} {ss : List (Bool × List Sh)} {ps : List PV} (h : FitPs (s :: ss) ps) : ∃ p ps', ps = p :: ps' ∧ FitP s p ∧ FitPs ss ps' := by
  cases ps with
  | nil => have := h.1; simp at this
  | cons p ps => exact ⟨p, ps, rfl, h.2 0 s p rfl rfl, by have := h.1; simpa using this, fun i s' p' hs hp => h.2 (i + 1) s' p' (by simpa using hs) (by simpa using hp)⟩
theorem FitPs.unnil {ps : List PV} (h : FitPs [] ps) : ps = [] := List.eq_nil_of_length_eq_zero (by simpa using h.1)
/-- What a list of arguments stands for, by its types' shapes. -/
theorem open_params {w : World} {spare : Nat → Bool} {held : Bool} {r : Go.Reach} {base n : Nat} : ∀ {ts : List TypeId} {vs : List Value} {ds : List (DataW H)} {ps : List MemPlace} {ss : List (Bool × List Sh)},
    DataW.TrodAll enc P w 0 spare held ts vs ds ps → (∀ (i : Nat) (t : TypeId) (v : Value), ts[i]? = some t → vs[i]? = some v → Value.okWide P w r base t v) → ts.map (paramF P n) = ss.map some → ∃ xs, FitPs ss xs ∧ RepL w (fun b => b < w.heap.size) xs vs
  | [], [], [], _, [], h, _, _ => ⟨[], ⟨rfl, fun i s p h => by simp at h⟩, RepL.nil⟩
  | t :: ts, v :: vs, d :: ds, ps, s :: ss, h, hv, he => by
    obtain ⟨p, q, h1, h2, rfl⟩ := h
    simp only [List.map_cons, List.cons.injEq] at he
    obtain ⟨x, hf, hr⟩ := open_param he.1 (hv 0 t v rfl rfl) h1
    obtain ⟨xs, hf', hr'⟩ := open_params h2 (fun i t v ht hv' => hv (i + 1) t v (by simpa using ht) (by simpa using hv')) he.2
    refine ⟨x :: xs, ⟨by simp [hf'.1], fun i s' p' hs hp => ?_⟩, RepL.cons hr hr'⟩
    cases i with
    | zero => simp at hs hp; subst hs; subst hp; exact hf
    | succ i => exact hf'.2 i s' p' (by simpa using hs) (by simpa using hp)
  | [], [], [], _, _ :: _, _, _, he => by simp at he
  | _ :: _, _ :: _, _ :: _, _, [], _, _, he => by simp at he
  | [], [], _ :: _, _, _, h, _, _ => h.elim
  | [], _ :: _, _, _, _, h, _, _ => h.elim
  | _ :: _, [], _, _, _, h, _, _ => h.elim
  | _ :: _, _ :: _, [], _, _, h, _, _ => h.elim
/-- A law that returns true, whatever it is handed, and turns nothing that was there. -/
theorem law_calls {C : Cx} {f : FuncId} {fn : Func} {s : ChangeSpec} {apart fresh handsOn : Bool} {W : World} {args : Array Value} {ds gs : List (DataW H)} {before : List MemPlace} {xs : List PV} {tb : TypeId}
    (hl : laidOutB C.P = true) (hr : ∀ t ∈ fn.params.toList, C.P.readableRec t = true ∧ t < C.P.types.size) (hres : fn.resultTypes = #[tb]) (htb : C.P.underlying tb = some .bool)
    (hv : s.vars = []) (hs : (s.fn H ds).results = [.lit (.bool true)] ∧ (s.fn H ds).args = ds ∧ (s.fn H ds).vars = [])
    (hW : DataW.Whole enc C.P fn.params.toList s.vars apart W args.toList ds gs before)
    (hc : APure C f xs (Bo true)) (hg : GlobOk C W (fun b => b < W.heap.size)) (hx : RepL W (fun b => b < W.heap.size) xs args.toList) :
    Calls C.P f args W fun e W' => ∃ v, e = .returned v ∧ s.post enc C.P fn apart fresh handsOn false W args v W' := by
  have h := hc.2 W (fun b => b < W.heap.size) args.toList (fun b hb => hb) hg hx
  rw [show args.toList.toArray = args by simp] at h
  refine h.mono fun e W' ⟨u, he, hb, hu⟩ => ⟨u, he, ?_⟩
  have hu' : u = .bool true := v_inv hu
  subst hu'
  have hW' := hW
  obtain ⟨p, q, hA, hV, rfl, _, _⟩ := hW
  rw [hv] at hV
  have hg0 : gs = [] ∧ q = [] := by
    cases gs with
    | nil => exact ⟨rfl, hV⟩
    | cons g r => exact hV.elim
  obtain ⟨rfl, rfl⟩ := hg0
  have hlt := hW'.lt
  refine ⟨ds, [], p ++ [], [], p, [], hW', ?_, ?_, ?_, hb.frame _, fun h => by cases h⟩
  · rw [List.append_nil, hs.1, hres]
    exact ChangeShapes.trodAll_mk1 (RowKit.shut_bool htb true)
  · rw [List.append_nil, hs.2.1]
    exact trodAll_stays hl hb hr hA fun x hx => hlt x (List.mem_append_left _ hx)
  · rw [List.append_nil, hs.2.2, hv]
    rfl
end

/-! ### The variables that are listed, or shaped alone -/
def Sh.num : Sh → Bool
  | .int _ => true
  | _ => false
/-- The numbers of a datum of structs, arrays and numbers. -/
def leavesF {H : Type} : Nat → DataW H → List Value
  | _, .lit (.int k n) => [.int k n]
  | m + 1, .agg ds => (ds.map (leavesF m)).flatten
  | _, _ => []
section
variable {H : Type} {enc : TypeId × Value → H} {P : Program} {w : World} {spare : Nat → Bool} {held : Bool}
theorem leaves_cat {g : Nat → Option (List Sh)} {size : Nat → Nat} {cs : List Value} {lv : DataW H → List Value} : ∀ {l : List (Nat × Nat)} {k : Nat} {sh : List Sh} {ds : List (DataW H)}, catF g size l k = some sh → ds.length = l.length → k + sh.length ≤ cs.length → sh.all Sh.num = true →
    (∀ (i o t : Nat) (d : DataW H), l[i]? = some (o, t) → ds[i]? = some d → ∀ s, g t = some s → s.all Sh.num = true → (cs.drop o).take (size t) = lv d) → (cs.drop k).take sh.length = (ds.map lv).flatten
  | [], k, sh, ds, h, hl, _, _, _ => by
    simp only [catF, Option.some.injEq] at h
    subst h
    have : ds = [] := List.eq_nil_of_length_eq_zero (by simpa using hl)
    subst this
    simp
  | (o, t) :: l, k, sh, [], h, hl, _, _, _ => by simp at hl
  | (o, t) :: l, k, sh, d :: ds, h, hl, hle, hn, hr => by
    unfold catF at h
    cases hg : g t with
    | none => rw [hg] at h; cases h
    | some s =>
      rw [hg] at h
      simp only at h
      cases hb : (Nat.beq o k && Nat.beq (size t) s.length) with
      | false => rw [hb] at h; cases h
      | true =>
        rw [hb] at h
        simp only [cond_true] at h
        rw [Bool.and_eq_true] at hb
        have h1 := Nat.eq_of_beq_eq_true hb.1
        have h2 := Nat.eq_of_beq_eq_true hb.2
        cases hc : catF g size l (k + s.length) with
        | none => rw [hc] at h; cases h
        | some s' =>
          rw [hc] at h
          simp only [Option.some.injEq] at h
          subst h
          rw [List.all_append, Bool.and_eq_true] at hn
          rw [List.length_append] at hle
          have e1 := hr 0 o t d rfl rfl s hg hn.1
          have e2 := leaves_cat (ds := ds) hc (by simpa using hl) (by omega) hn.2 fun i o' t' d' hi hd => hr (i + 1) o' t' d' (by simpa using hi) (by simpa using hd)
          rw [h1, h2] at e1
          rw [List.length_append, List.take_add, List.drop_drop, e1, e2]
          simp
theorem shape_len : ∀ {n : Nat} {t : TypeId} {sh : List Sh} {fuel : Nat} {cs : List Value} {x : DataW H × List MemPlace}, shapeF P n t = some sh → DataW.trod enc P w 0 spare held fuel t cs = some x → cs.length = sh.length := fun h1 h2 => by
  obtain ⟨ps, hf, hr⟩ := open_shape h1 h2
  rw [hr.1, hf.1]
/-- A datum of numbers is read off its own cells. -/
theorem leaves_of : ∀ {n : Nat} {t : TypeId} {sh : List Sh} {fuel : Nat} {cs : List Value} {x : DataW H × List MemPlace}, shapeF P n t = some sh → sh.all Sh.num = true → DataW.trod enc P w 0 spare held fuel t cs = some x → cs = leavesF n x.1
  | 0, t, sh, fuel, cs, x, hs, _, h => by cases hs
  | n + 1, t, sh, fuel, cs, x, hs, hn, h => by
    have hlen := shape_len hs h
    unfold shapeF at hs
    split at hs
    · cases hs; simp [Sh.num] at hn
    · rename_i k hu
      obtain ⟨m, rfl, rfl, _⟩ := DataW.trod_int hu h
      rfl
    · cases hs; simp [Sh.num] at hn
    · rename_i e hu
      exfalso
      split at hs
      · rename_i el he
        cases hb : (Nat.beq (P.cellsOf e) el.length && !Nat.beq el.length 0) with
        | false => rw [hb] at hs; cases hs
        | true => rw [hb] at hs; cases hs; simp [Sh.num] at hn
      · cases hs
    · rename_i fs hu
      cases hc : catF (shapeF P n) P.cellsOf (fs.toList.map fun f => (f.offset, f.type)) 0 with
      | none => rw [hc] at hs; cases hs
      | some l =>
        rw [hc] at hs
        simp only at hs
        cases hb : Nat.beq (P.cellsOf t) l.length with
        | false => rw [hb] at hs; cases hs
        | true =>
          rw [hb] at hs
          simp only [cond_true, Option.some.injEq] at hs
          subst hs
          obtain ⟨xs, m, _, rfl, _, hxs, hel⟩ := DataW.trod_struct hu h
          have := leaves_cat (cs := cs) (lv := leavesF n) (ds := xs.map (·.1)) hc (by simp [hxs]) (by omega) hn fun i o t' d hi hd s hg hsn => by
            rw [List.getElem?_map] at hi hd
            cases hy : fs.toList[i]? with
            | none => rw [hy] at hi; cases hi
            | some f =>
              rw [hy] at hi
              simp at hi
              obtain ⟨rfl, rfl⟩ := hi
              have h3 := hel i f (by simpa using hy)
              cases hz : xs[i]? with
              | none => rw [hz] at hd; cases hd
              | some z =>
                rw [hz] at hd h3
                simp at hd
                subst hd
                exact leaves_of hg hsn h3
          rw [List.drop_zero, ← hlen, List.take_length] at this
          exact this
    · rename_i m e hu
      cases hc : catF (shapeF P n) P.cellsOf ((List.range m).map fun i => (i * P.cellsOf e, e)) 0 with
      | none => rw [hc] at hs; cases hs
      | some l =>
        rw [hc] at hs
        simp only at hs
        cases hb : Nat.beq (P.cellsOf t) l.length with
        | false => rw [hb] at hs; cases hs
        | true =>
          rw [hb] at hs
          simp only [cond_true, Option.some.injEq] at hs
          subst hs
          obtain ⟨xs, k, _, rfl, _, hxs, hel⟩ := DataW.trod_array hu h
          have := leaves_cat (cs := cs) (lv := leavesF n) (ds := xs.map (·.1)) hc (by simp [hxs]) (by omega) hn fun i o t' d hi hd s hg hsn => by
            rw [List.getElem?_map] at hi hd
            cases hy : (List.range m)[i]? with
            | none => rw [hy] at hi; cases hi
            | some f =>
              rw [hy] at hi
              simp at hi
              obtain ⟨hi1, hi2⟩ := hi
              obtain ⟨h5, h6⟩ := List.getElem?_eq_some_iff.1 hy
              simp at h5 h6
              subst h6
              have h3 := hel i h5
              subst hi1; subst hi2
              cases hz : xs[i]? with
              | none => rw [hz] at hd; cases hd
              | some z =>
                rw [hz] at hd h3
                simp at hd
                subst hd
                exact leaves_of hg hsn h3
          rw [List.drop_zero, ← hlen, List.take_length] at this
          exact this
    · cases hs
theorem laid_get {l : List (String × DataW Unit)} : ∀ {ps : List MemPlace}, DataW.LaidVars P w l ps → ∀ {n : String} {d : DataW Unit}, (n, d) ∈ l →
    ∃ g t cs fuel p, P.globalNamed n = some g ∧ (P.globals[g]?).map (·.type) = some t ∧ w.var? P n = some cs ∧ DataW.trod (fun _ => ()) P w 0 (fun _ => true) false fuel t cs.toList = some (d, p) := by
  induction l with
  | nil => intro ps _ n d h; simp at h
  | cons a r ih =>
    intro ps h n d hm
    obtain ⟨n0, d0⟩ := a
    obtain ⟨g, t, cs, fuel, p, q, h1, h2, h3, h4, h5, _⟩ := h
    rcases List.mem_cons.1 hm with e | hm
    · cases e
      exact ⟨g, t, cs, fuel, p, h1, h2, h3, h4⟩
    · exact ih h5 hm
/-- The whole block of a listed variable of numbers. -/
theorem laid_block {l : List (String × DataW Unit)} (h : laidMet P l w) {n : String} {d : DataW Unit} (hm : (n, d) ∈ l) {g t k : Nat} {sh : List Sh} (hg : P.globalNamed n = some g) (ht : (P.globals[g]?).map (·.type) = some t)
    (hs : shapeF P k t = some sh) (hn : sh.all Sh.num = true) : ∃ t' f, w.heap[g]? = some (.cells (leavesF k d).toArray t' f) := by
  obtain ⟨ps, hv, _, _⟩ := h
  obtain ⟨g', t', cs, fuel, p, h1, h2, h3, h4⟩ := laid_get hv hm
  obtain rfl := Option.some.inj (hg.symm.trans h1)
  obtain rfl := Option.some.inj (ht.symm.trans h2)
  have h5 := leaves_of hs hn h4
  simp only [World.var?, hg, Option.bind_some] at h3
  cases hh : w.heap[g]? with
  | none => rw [hh] at h3; cases h3
  | some o =>
    rw [hh] at h3
    cases o with
    | cells c t' f =>
      simp only [Option.some.injEq] at h3
      subst h3
      refine ⟨t', f, ?_⟩
      rw [← show c.toList = leavesF k d from h5]
    | _ => cases h3
/-- A variable of one whole number, whatever it holds. -/
theorem shaped_int {g t u : Nat} {zero : Array Value} (h : w.ShapedOpen P) (hg : g < P.globals.size) (hz : ((begin P (fun _ _ => 0) default).world.heap[g]?).bind Obj.row? = some (zero, t)) (hs : zero.size = 1)
    (hb : P.buildable t = true) (hts : P.cellTypes P.depth t = some [u]) (hu : P.underlying u = some (.int .i64)) : ∃ m t' f, w.heap[g]? = some (.cells #[.int .i64 m] t' f) := by
  obtain ⟨cs, h1, h2, h3⟩ := h.1 g zero t hg hz
  obtain ⟨ts, h4, _, h5⟩ := h3 hb
  obtain rfl := Option.some.inj (hts.symm.trans h4)
  rw [hs] at h2
  obtain ⟨u', h6, h7⟩ := h5 0 cs[0] (by simp [h2])
  simp at h6
  subst h6
  have h8 : ∃ m, cs[0] = .int .i64 m := by
    generalize hx : cs[0] = x at h7
    unfold Cell.ok at h7
    rw [hu] at h7
    cases x <;> simp_all
  obtain ⟨m, h8⟩ := h8
  refine ⟨m, t, (0, 0), ?_⟩
  rw [h1]
  have : cs = #[.int .i64 m] := by
    rw [← h8]
    apply Array.ext
    · simp [h2]
    · intro i hi hi'
      have : i = 0 := by omega
      subst this
      simp
  rw [this]
end
end Go.Proofs.Ab
end
section
/- A body that is cut into pieces. -/
set_option linter.unusedVariables false
set_option linter.unusedSimpArgs false
namespace Go.Proofs.Ab
open Go Go.RowKit

/-- Where the evaluation is cut. -/
structure SCut (p : Prop) : Prop where
  h : p
/-- The code up to its n-th piece; from there on, what the rest comes to. -/
def codeN (C : Cx) (nt : Nat) (mu : List Nat) : Nat → Code → AS → (Out → AS → Prop) → Prop
  | 0, c, s, Q => SCut (AWp C nt c Q s)
  | n + 1, .seq c d, s, Q => codeK C nt mu c s fun e s' => match e with
    | .normal => codeN C nt mu n d s' Q
    | e => Q e s'
  | _ + 1, c, s, Q => codeK C nt mu c s Q
theorem codeN_sound {C : Cx} {nt : Nat} (hC : C.Good) {mu : List Nat} : ∀ {n : Nat} {c : Code} {s : AS} {Q : Out → AS → Prop}, codeN C nt mu n c s Q → AWp C nt c Q s
  | 0, c, s, Q, h => h.h
  | n + 1, .seq c d, s, Q, h => .seq ((codeK_sound hC (mu := mu) h).mono fun e s' hq => by
      cases e with
      | normal => exact codeN_sound hC hq
      | ret => exact hq
      | exit i => exact hq)
  | n + 1, .skip, s, Q, h => codeK_sound hC h
  | n + 1, .region _ _ _, s, Q, h => codeK_sound hC h
  | n + 1, .cond _ _ _, s, Q, h => codeK_sound hC h
  | n + 1, .block _ _, s, Q, h => codeK_sound hC h
  | n + 1, .exit _, s, Q, h => codeK_sound hC h
  | n + 1, .ret, s, Q, h => codeK_sound hC h
  | n + 1, .loop _, s, Q, h => codeK_sound hC h
  | n + 1, .rangeFunc _ _ _ _, s, Q, h => codeK_sound hC h
  | n + 1, .scope _, s, Q, h => codeK_sound hC h
  | n + 1, .label _, s, Q, h => codeK_sound hC h
  | n + 1, .goto _, s, Q, h => codeK_sound hC h
  | n + 1, .refuse _, s, Q, h => codeK_sound hC h
/-- A contract, out of what the body's code comes to. -/
theorem APure.of_wp {C : Cx} (hC : C.Good) {f : FuncId} {fn : Func} {c : Code} {rs : List ResultVar} {nt : Nat} {xs : List PV} {v : PV} (hf : C.P.funcs[f]? = some fn) (hn : (fn.name == "runtime.NumGoroutine") = false) (hb : fn.body = some c)
    (hnt : fn.ntmps = nt) (hx : Nat.ble xs.length nt = true) (hrs : fn.results = rs.toArray) (hl : Nat.ble rs.length 4 = true)
    (h : AWp C nt c (fun e s => match e with | .exit _ => False | _ => endK C rs s v) (initS xs)) : APure C f xs v := by
  refine ⟨⟨fn, c, hf, hn, hb⟩, fun w ok us hlt hg hr => ?_⟩
  refine (callsIn_wide (n := 0)).1 (callsIn_of_wp_marks hf hb trivial ?_)
  have hxl : us.length ≤ nt := by rw [hr.1]; exact Nat.le_of_ble_eq_true hx
  have hS : Sat C nt (initS xs) w.heap.size ⟨ok, fun _ => undef⟩ w { tmps := us.toArray ++ Array.replicate (fn.ntmps - us.toArray.size) undef, defers := [] } w ⟨ok, fun _ => none, fun _ => none⟩ := by
    refine ⟨rfl, by simp [hnt]; omega, fun t v ht => ?_, ⟨fun n T cs hn => (by cases hn), fun n e sz xs hn => (by cases hn), fun n o hn => (by cases hn)⟩, fun n m x y g hn => (by cases hn), fun n m x y g v hn => (by cases hn), fun n m x y g v v' hn => (by cases hn), fun n _ => ⟨rfl, rfl⟩, hlt, fun b hb => .inl hb, fun b hb => hb, rfl, Below.refl _ _, hg, fun t v ht => (by cases ht), ⟨fun n m x y hn => (nomatch hn), fun n m x y hn => (nomatch hn), fun n m x y v hn => (nomatch hn)⟩⟩
    obtain ⟨j, x, rfl, hj, rfl⟩ := initFr_look ht
    have hjl : j < us.length := by rw [hr.1]; exact (List.getElem?_eq_some_iff.1 hj).1
    rw [Nat.zero_add]
    refine ⟨by omega, ?_⟩
    have : (us.toArray ++ Array.replicate (fn.ntmps - us.toArray.size) undef).getD j undef = us[j] := by
      have h1 : j < us.length + (fn.ntmps - us.length) := by omega
      simp [Array.getD, h1, Array.getElem_append, hjl]
    simp only [this]
    exact hr.2 j x us[j] hj (List.getElem?_eq_getElem hjl)
  have hFW : FW C Fence.wide := ⟨fun _ => trivial, rfl, rfl, fun _ => rfl⟩
  refine h.wp Fence.wide 0 hFW _ _ w _ w _ _ hS (fun e s a w' E hq hS' => ?_)
  have fin : endK C rs s v → LeavesInM Fence.wide 0 C.P fn a.tmps (fun e w' => ∃ u, e = .returned u ∧ Below w.heap.size w w' ∧ Rep w' (grow ok w w') v u) a.defers .returning w' := by
    intro hq
    obtain ⟨s1, hq, h1⟩ := sealOpsK_sound (C := C) (nt := nt) hq
    obtain ⟨s2, hq, h2⟩ := freezeOpsK_sound (C := C) (nt := nt) hq
    obtain ⟨E1, hS1⟩ := h1 hS'
    obtain ⟨E2, hS2⟩ := h2 hS1
    rw [hS2.defs]
    refine leaveK_sound (s := s2) (K := fun o' => resK C { s2 with ob := o' } rs fun xs => match xs with
      | [x] => SEnd x v
      | xs => SEnd (.tup xs) v) hq hS2 (fun ob' w' hq hS2 => ?_)
    obtain ⟨ys, hq, hyl, hys⟩ := resK_sound (nt := nt) hC hq
    obtain ⟨vs, hrv, ho⟩ := hys hS2
    refine ⟨_, results_run hrs (Nat.le_of_ble_eq_true hl) ho, _, rfl, hS2.below, ?_⟩
    have hgr : ∀ b, E2.ok b → grow ok w w' b := fun b hb => by
      rcases hS2.ok_from b hb with h | h
      · exact .inl h
      · exact .inr ⟨h, hS2.ok_lt b hb⟩
    have hrv' : RepL w' (grow ok w w') ys vs := hrv.ext hgr (fun _ _ => rfl)
    have hvl := hrv.1
    split at hq
    · rename_i x
      obtain ⟨u, us', rfl, hu, hn⟩ := hrv'.uncons
      obtain rfl := hn.unnil
      exact hq.h _ _ _ hu
    · rename_i hne
      have : Rep w' (grow ok w w') (.tup ys) (.tuple vs.toArray) := .tup ys vs hrv'.1 hrv'.2
      split
      · rename_i u
        obtain ⟨y, rfl⟩ : ∃ y, ys = [y] := List.length_eq_one_iff.1 (by simpa using hvl.symm)
        exact absurd rfl (hne y)
      · exact hq.h _ _ _ this
  cases e with
  | normal => exact fin hq
  | ret => exact fin hq
  | exit i => exact hq.elim

end Go.Proofs.Ab
end
section
/- The small functions of the program's chapter. -/
set_option maxRecDepth 100000
set_option linter.unusedVariables false
set_option linter.unusedSimpArgs false
namespace Go.Proofs.Ab.Area
open Go Go.RowKit Go.Proofs.Ab
def tab2 : List (Nat × TI) := (265, ⟨.map 9 4, 1, 8, [.map none]⟩) :: tab
theorem tab2_good : checkTab Tryz.prog tab2 = true := by kernel_rfl
/-- The globals: bytealg.MaxLen (whatever it holds); the powers of ten. -/
noncomputable def C (m : Int) : Cx := { P := Tryz.prog, tab := tab2, glob := [(0, [I m])], tabs := [(1, (Lib.pow10Tab.map fun z => Value.int .u64 z).toArray)] }
theorem good {m : Int} : (C m).Good := ⟨tab2_good, by kernel_rfl⟩
theorem goodQ {m : Int} : ({ C m with inR := true } : Cx).Good := ⟨tab2_good, by kernel_rfl⟩
theorem wl0 : wrapK IntKind.i64 (0 + 1) = 1 := by kernel_rfl
theorem wl1 : wrapK IntKind.i64 (1 + 1) = 2 := by kernel_rfl
theorem wl2 : wrapK IntKind.i64 (2 + 1) = 3 := by kernel_rfl
theorem wl3 : wrapK IntKind.i64 (3 + 1) = 4 := by kernel_rfl
theorem wl4 : wrapK IntKind.i64 (1 - 0) = 1 := by kernel_rfl
theorem wl5 : wrapK IntKind.i64 (1 - 1) = 0 := by kernel_rfl
theorem when_pure {m : Int} (b : Bool) (n : Int) : APure (C m) 104 [Bo b, I n] (I (if b then n else 0)) := by
  refine APure.of_body good [] (fn := Tryz.f104) (by kernel_rfl) (by kernel_rfl) rfl rfl (by kernel_rfl) rfl (by kernel_rfl) ?_
  cases b
  · conv => whnf
    exact ⟨PLe.refl _⟩
  · conv => whnf
    exact ⟨PLe.refl _⟩
theorem within_pure {m : Int} (n least most : Int) : APure (C m) 128 [I n, I least, I most] (I (within n least most)) := by
  refine APure.of_body good [] (fn := Tryz.f128) (by kernel_rfl) (by kernel_rfl) rfl rfl (by kernel_rfl) rfl (by kernel_rfl) ?_
  conv => whnf
  repeat' (first
    | (refine SBool.mk (fun h => ?_) (fun h => ?_) <;> conv => whnf)
    | (refine SEx.mk _ (by first | exact when_pure _ _) ?_; conv => whnf)
    | fail)
  all_goals exact ⟨PLe.of_eq (by simp [within, *])⟩
abbrev ints (xs : List Int) : PV := .seq 1 (xs.map fun x => [I x])
theorem wrap_id {n : Int} (h1 : -9223372036854775808 ≤ n) (h2 : n ≤ 9223372036854775807) : wrap64 n = n := by
  unfold wrap64
  omega
theorem firstOf_drop {xs : List Int} {k : Nat} (h : k < xs.length) : firstOf (xs.drop k) = if xs[k] = 0 then firstOf (xs.drop (k + 1)) else xs[k] := by
  rw [List.drop_eq_getElem_cons h]
  rfl
theorem first_pure {m : Int} (xs : List Int) (hl : xs.length ≤ 4611686018427387904) : APure (C m) 93 [ints xs] (I (firstOf xs)) := by
  refine APure.of_body good [] (fn := Tryz.f93) (by kernel_rfl) (by kernel_rfl) rfl rfl (by kernel_rfl) rfl (by kernel_rfl) ?_
  conv => whnf
  refine ⟨AWp.loop (ι := { k : Nat // k ≤ xs.length ∧ firstOf xs = firstOf (xs.drop k) }) (fun k => ⟨[(7, .p (I k.1)), (6, .p (I xs.length)), (5, .p (ints xs))], [], [], 0, [], [], []⟩) (fun k => xs.length - k.1) ⟨0, by simp⟩ ?_ ?_⟩
  · refine SLe.of [] [] rfl rfl ?_
    conv => whnf
    refine SAnd.mk (PLe.refl _) ?_
    conv => whnf
    refine SAnd.mk (PLe.of_eq (by simp)) ?_
    conv => whnf
    refine SAnd.mk (PLe.refl _) ?_
    exact True.intro
  · rintro ⟨k, hk, he⟩
    refine codeK_sound good (mu := []) ?_
    conv => whnf
    refine SBool.mk (fun h => ?_) (fun h => ?_)
    · conv => whnf
      have hkl : k < xs.length := by simpa using h
      refine SEx.mk [I xs[k]] (by simp [hkl]) ?_
      conv => whnf
      refine SBool.mk (fun h0 => ?_) (fun h0 => ?_)
      · conv => whnf
        refine ⟨⟨k + 1, by omega, by rw [he, firstOf_drop hkl, if_pos h0]⟩, by simp only; omega, ?_⟩
        refine SLe.of [] [] rfl rfl ?_
        conv => whnf
        refine SAnd.mk (PLe.of_eq (by simp only [wrapK]; rw [wrap_id (by omega) (by omega)]; simp)) ?_
        conv => whnf
        refine SAnd.mk (PLe.refl _) ?_
        conv => whnf
        refine SAnd.mk (PLe.refl _) ?_
        exact True.intro
      · conv => whnf
        exact ⟨PLe.of_eq (by rw [he, firstOf_drop hkl, if_neg h0])⟩
    · conv => whnf
      have : k = xs.length := by simp at h; omega
      exact ⟨PLe.of_eq (by rw [he, this]; simp [firstOf])⟩
theorem w64 {n : Int} (h : n.natAbs ≤ 4000000000000000000) : wrapK IntKind.i64 n = n := by
  show wrap64 n = n
  exact wrap_id (by omega) (by omega)
theorem take_map_succ {α β : Type} {xs : List α} {k : Nat} (h : k < xs.length) (f : α → β) : (xs.take (k + 1)).map f = (xs.take k).map f ++ [f xs[k]] := by
  rw [List.take_succ_eq_append_getElem h, List.map_append]
  rfl
theorem first2_pure {m : Int} (a b : Int) : APure (C m) 93 [.seq 1 [[I a], [I b]]] (I (firstOf [a, b])) := first_pure [a, b] (by simp)
theorem first3_pure {m : Int} (a b c : Int) : APure (C m) 93 [.seq 1 [[I a], [I b], [I c]]] (I (firstOf [a, b, c])) := first_pure [a, b, c] (by simp)
theorem first4_pure {m : Int} (a b c d : Int) : APure (C m) 93 [.seq 1 [[I a], [I b], [I c], [I d]]] (I (firstOf [a, b, c, d])) := first_pure [a, b, c, d] (by simp)
theorem checkPoint_pure {m : Int} (p : Pt) : APure (C m) 94 [.agg (pc p)] (I (ptE p)) := by
  refine APure.of_body good [] (fn := Tryz.f94) (by kernel_rfl) (by kernel_rfl) rfl rfl (by kernel_rfl) rfl (by kernel_rfl) ?_
  conv => whnf
  repeat' (first
    | (refine SEx.mk _ (by first | exact within_pure _ _ _ | exact first2_pure _ _) ?_; conv => whnf)
    | (refine SAnd.mk (by first | exact rfl | kernel_rfl | omega | decide | exact within_pure _ _ _ | exact first2_pure _ _) ?_; conv => whnf)
    | fail)
  exact ⟨PLe.refl _⟩
/-- A point whose parts are not too great. -/
structure Pt.Fit (p : Pt) : Prop where
  x : p.x.natAbs ≤ 1000000
  y : p.y.natAbs ≤ 1000000
theorem fit_of {p : Pt} (h : ptE p = 0) : p.Fit := by
  have := ptE_zero.1 h
  exact ⟨by omega, by omega⟩
theorem mul_small {a b : Int} (ha : a.natAbs ≤ 2000000) (hb : b.natAbs ≤ 2000000) : (a * b).natAbs ≤ 4000000000000 := by
  rw [Int.natAbs_mul]
  exact Nat.le_trans (Nat.mul_le_mul ha hb) (by decide)
theorem sub_small {a b : Int} (ha : a.natAbs ≤ 1000000) (hb : b.natAbs ≤ 1000000) : (a - b).natAbs ≤ 2000000 := by omega
theorem sub_w {a b : Int} (ha : a.natAbs ≤ 4000000000000) (hb : b.natAbs ≤ 4000000000000) : wrapK IntKind.i64 (a - b) = a - b := w64 (by omega)
theorem cross_pure {m : Int} (a b p : Pt) (ha : a.Fit) (hb : b.Fit) (hp : p.Fit) : APure (C m) 107 [.agg (pc a), .agg (pc b), .agg (pc p)] (I (cr a b p)) := by
  have s1 := sub_small hb.x ha.x
  have s2 := sub_small hp.y ha.y
  have s3 := sub_small hb.y ha.y
  have s4 := sub_small hp.x ha.x
  have m1 := mul_small s1 s2
  have m2 := mul_small s3 s4
  have e1 : wrapK IntKind.i64 (b.x - a.x) = b.x - a.x := w64 (Nat.le_trans s1 (by decide))
  have e2 : wrapK IntKind.i64 (p.y - a.y) = p.y - a.y := w64 (Nat.le_trans s2 (by decide))
  have e3 : wrapK IntKind.i64 (b.y - a.y) = b.y - a.y := w64 (Nat.le_trans s3 (by decide))
  have e4 : wrapK IntKind.i64 (p.x - a.x) = p.x - a.x := w64 (Nat.le_trans s4 (by decide))
  have e5 : wrapK IntKind.i64 ((b.x - a.x) * (p.y - a.y)) = (b.x - a.x) * (p.y - a.y) := w64 (Nat.le_trans m1 (by decide))
  have e6 : wrapK IntKind.i64 ((b.y - a.y) * (p.x - a.x)) = (b.y - a.y) * (p.x - a.x) := w64 (Nat.le_trans m2 (by decide))
  have e7 : wrapK IntKind.i64 (cr a b p) = cr a b p := sub_w m1 m2
  refine APure.of_body good [] (fn := Tryz.f107) (by kernel_rfl) (by kernel_rfl) rfl rfl (by kernel_rfl) rfl (by kernel_rfl) ?_
  conv => whnf
  repeat' (first
    | fail)
  exact ⟨PLe.of_eq (by rw [e1, e2, e3, e4, e5, e6]; exact congrArg I e7)⟩
end Go.Proofs.Ab.Area
end
section
/- Lists and functions; points compared. -/
set_option maxRecDepth 100000
set_option linter.unusedVariables false
set_option linter.unusedSimpArgs false
namespace Go.Proofs.Ab.Area
open Go Go.RowKit Go.Proofs.Ab
theorem eq2 {P : Program} {t : TypeId} {f1 f2 : Field} (hS : P.underlying t = some (.struct (P.fieldsOf t))) (hp : P.stoodInHeld t = false) (hf : (P.fieldsOf t).toList = [f1, f2]) (hn1 : f1.name ≠ "_") (hn2 : f2.name ≠ "_")
    (hu1 : P.underlying f1.type = some (.int .i64)) (hu2 : P.underlying f2.type = some (.int .i64)) (ho1 : f1.offset = 0) (ho2 : f2.offset = 1) (a b c d : Int) (k : Nat) (w : World) :
    (Op.equalIn (k + 2) t (.agg #[.int .i64 a, .int .i64 b]) (.agg #[.int .i64 c, .int .i64 d])).run P w = .ok (decide (a = c ∧ b = d)) w := by
  rw [run_equalIn_struct w (k + 1) t _ _ hS hp, hf]
  by_cases h1 : a = c <;> by_cases h2 : b = d <;> simp [Op.eqFields, hn1, hn2, part, isAgg, run_underlying hu1, run_underlying hu2, ho1, ho2, run_equalIn_int w k f1.type .i64 .i64 _ _ hu1, run_equalIn_int w k f2.type .i64 .i64 _ _ hu2, h1, h2]
theorem eqAgg2 {m : Int} {t : TypeId} {f1 f2 : Field} (hS : (C m).P.underlying t = some (.struct ((C m).P.fieldsOf t))) (hp : (C m).P.stoodInHeld t = false) (hf : ((C m).P.fieldsOf t).toList = [f1, f2]) (hn1 : f1.name ≠ "_") (hn2 : f2.name ≠ "_")
    (hu1 : (C m).P.underlying f1.type = some (.int .i64)) (hu2 : (C m).P.underlying f2.type = some (.int .i64)) (ho1 : f1.offset = 0) (ho2 : f2.offset = 1) (hm : (C m).P.eqGuardType (C m).P.depth t = false) (a b c d : Int) :
    EqAgg (C m) t [I a, I b] [I c, I d] (decide (a = c ∧ b = d)) := by
  intro x y w ok us vs hu hv
  obtain ⟨u1, us1, rfl, h1, hu⟩ := hu.uncons
  obtain ⟨u2, us2, rfl, h2, hu⟩ := hu.uncons
  obtain rfl := hu.unnil
  obtain ⟨v1, vs1, rfl, h3, hv⟩ := hv.uncons
  obtain ⟨v2, vs2, rfl, h4, hv⟩ := hv.uncons
  obtain rfl := hv.unnil
  cases h1; cases h2; cases h3; cases h4
  exact ⟨run_eqGuard_agg w _ t x y _ _ hm, run_eqGuard_agg w _ t x y _ _ hm, eq2 hS hp hf hn1 hn2 hu1 hu2 ho1 ho2 a b c d 9998 w⟩
theorem eq_point {m : Int} (p q : Pt) : EqAgg (C m) 24 (pc p) (pc q) (decide (p.x = q.x ∧ p.y = q.y)) :=
  eqAgg2 (f1 := ⟨"X", 3, 0, false, "", "", 0⟩) (f2 := ⟨"Y", 3, 1, false, "", "", 8⟩) (by kernel_rfl) (by kernel_rfl) (by kernel_rfl) (by decide) (by decide) (by kernel_rfl) (by kernel_rfl) rfl rfl (by kernel_rfl) p.x p.y q.x q.y
/-- The first index at which something holds, counted from k; -1. -/
def idx {α : Type} (f : α → Bool) : List α → Nat → Int
  | [], _ => -1
  | x :: xs, k => if f x then k else idx f xs (k + 1)
theorem idx_drop {α : Type} (f : α → Bool) {xs : List α} {k : Nat} (h : k < xs.length) : idx f (xs.drop k) k = if f xs[k] = true then (k : Int) else idx f (xs.drop (k + 1)) (k + 1) := by
  rw [List.drop_eq_getElem_cons h]
  rfl
theorem idx_any' {α : Type} (f : α → Bool) : ∀ (xs : List α) (k : Nat), (0 ≤ idx f xs k → xs.any f = true) ∧ (¬ 0 ≤ idx f xs k → xs.any f = false)
  | [], k => ⟨fun h => absurd h (by simp [idx]), fun _ => rfl⟩
  | x :: xs, k => by
    have ih := idx_any' f xs (k + 1)
    unfold idx
    rw [List.any_cons]
    cases f x with
    | true => exact ⟨fun _ => rfl, fun h => absurd (Int.natCast_nonneg k) (by simp at h)⟩
    | false => exact ⟨fun h => by simpa using ih.1 (by simpa using h), fun h => by simpa using ih.2 (by simpa using h)⟩
theorem idx_any {α : Type} (f : α → Bool) (xs : List α) : (0 ≤ idx f xs 0 → xs.any f = true) ∧ (¬ 0 ≤ idx f xs 0 → xs.any f = false) := idx_any' f xs 0
theorem indexFunc178 {m : Int} (f : Pt → Bool) (g : FuncId) (caps : List PV) (xs : List Pt) (hl : xs.length ≤ 1000000) (h : ∀ x ∈ xs, APure (C m) g (.agg (pc x) :: caps) (Bo (f x))) :
    APure (C m) 178 [.seq 2 (xs.map pc), .fn g caps] (I (idx f xs 0)) := by
  refine APure.of_body good [] (fn := Tryz.f178) (by kernel_rfl) (by kernel_rfl) rfl rfl (by kernel_rfl) rfl (by kernel_rfl) ?_
  conv => whnf
  refine ⟨AWp.loop (ι := { k : Nat // k ≤ xs.length ∧ idx f xs 0 = idx f (xs.drop k) k }) (fun k => ⟨[(8, .p (I k.1)), (7, .p (I xs.length)), (1, .p (.fn g caps)), (0, .p (.seq 2 (xs.map pc)))], [], [], 0, [], [], []⟩) (fun k => xs.length - k.1) ⟨0, by simp⟩ ?_ ?_⟩
  · skip
    · refine SLe.of [] [] rfl rfl ?_
      conv => whnf
      repeat' (first
      | exact True.intro
      | (refine SAnd.mk (PLe.refl _) ?_; conv => whnf)
      | (refine SAnd.mk (PLe.of_eq (by simp)) ?_; conv => whnf))
  · rintro ⟨k, hk, he⟩
    refine codeK_sound good (mu := []) ?_
    conv => whnf
    refine SBool.mk (fun hc => ?_) (fun hc => ?_)
    · have hkl : k < xs.length := by simpa using hc
      have hcall := h xs[k] (List.getElem_mem hkl)
      have hsome : 0 ≤ (k : Int) ∧ (xs.map pc)[((k : Int)).toNat]? = some (pc xs[k]) := ⟨by omega, by show (xs.map pc)[k]? = _; simp [hkl]⟩
      have wk : wrapK IntKind.i64 ((k : Int) + 1) = k + 1 := w64 (by omega)
      have hid := idx_drop f hkl
      conv => whnf
      cases hf : f xs[k] with
      | true =>
        rw [hf] at hcall hid
        conv => whnf
        repeat' (first
          | (refine SEx.mk _ (by first | exact hsome | exact hcall) ?_; conv => whnf)
          | fail)
        exact ⟨PLe.of_eq (congrArg I (he.trans hid).symm)⟩
      | false =>
        rw [hf] at hcall hid
        conv => whnf
        repeat' (first
          | (rw [wk]; conv => whnf)
          | (refine SEx.mk _ (by first | exact hsome | exact hcall) ?_; conv => whnf)
          | fail)
        refine ⟨⟨k + 1, hkl, he.trans hid⟩, by simp only; omega, ?_⟩
        skip
        · refine SLe.of [] [] rfl rfl ?_
          conv => whnf
          repeat' (first
          | exact True.intro
          | (refine SAnd.mk (PLe.refl _) ?_; conv => whnf))
    · conv => whnf
      have : k = xs.length := by simp at hc; omega
      subst this
      exact ⟨PLe.of_eq (by rw [he]; simp [idx])⟩
theorem containsFunc108 {m : Int} (f : Pt → Bool) (g : FuncId) (caps : List PV) (xs : List Pt) (hl : xs.length ≤ 1000000) (h : ∀ x ∈ xs, APure (C m) g (.agg (pc x) :: caps) (Bo (f x))) :
    APure (C m) 108 [.seq 2 (xs.map pc), .fn g caps] (Bo (xs.any f)) := by
  have hi := idx_any f xs
  refine APure.of_body good [] (fn := Tryz.f108) (by kernel_rfl) (by kernel_rfl) rfl rfl (by kernel_rfl) rfl (by kernel_rfl) ?_
  conv => whnf
  repeat' (first
    | (refine SBool.mk (fun h => ?_) (fun h => ?_) <;> conv => whnf)
    | (refine SEx.mk _ (by first | exact indexFunc178 f g caps xs hl h) ?_; conv => whnf)
    | fail)
  · exact ⟨PLe.of_eq (by rw [hi.1 (by assumption)])⟩
  · exact ⟨PLe.of_eq (by rw [hi.2 (by assumption)])⟩
theorem mapped105 {m : Int} (f : Pt → Int) (g : FuncId) (caps : List PV) (xs : List Pt) (hl : xs.length ≤ 1000000) (h : ∀ x ∈ xs, APure (C m) g (.agg (pc x) :: caps) (I (f x))) :
    APure (C m) 105 [.seq 2 (xs.map pc), .fn g caps] (.seq 1 (xs.map fun x => [I (f x)])) := by
  refine APure.of_body good [] (fn := Tryz.f105) (by kernel_rfl) (by kernel_rfl) rfl rfl (by kernel_rfl) rfl (by kernel_rfl) ?_
  conv => whnf
  refine ⟨AWp.loop (ι := { k : Nat // k ≤ xs.length }) (fun k => ⟨[(10, .p (I k.1)), (9, .p (I xs.length)), (8, .p (.seq 2 (xs.map pc))), (5, .own 0), (1, .p (.fn g caps))], [], [(0, (28, 1, (xs.take k.1).map fun x => [I (f x)]))], 1, [], [], []⟩) (fun k => xs.length - k.1) ⟨0, by simp⟩ ?_ ?_⟩
  · refine SLe.row 5 28 1 ?_
    conv => whnf
    skip
    · refine SLe.of [] [(0, 0)] rfl rfl ?_
      conv => whnf
      repeat' (first
      | exact True.intro
      | (refine SAnd.mk (PLe.refl _) ?_; conv => whnf)
      | (refine SAnd.mk (PLe.of_eq (by simp)) ?_; conv => whnf)
      | (refine SAnd.mk rfl ?_; conv => whnf))
  · rintro ⟨k, hk⟩
    refine codeK_sound good (mu := []) ?_
    conv => whnf
    refine SBool.mk (fun hc => ?_) (fun hc => ?_)
    · have hkl : k < xs.length := by simpa using hc
      have hcall := h xs[k] (List.getElem_mem hkl)
      have hsome : 0 ≤ (k : Int) ∧ (xs.map pc)[((k : Int)).toNat]? = some (pc xs[k]) := ⟨by omega, by show (xs.map pc)[k]? = _; simp [hkl]⟩
      have wk : wrapK IntKind.i64 ((k : Int) + 1) = k + 1 := w64 (by omega)
      conv => whnf
      conv => whnf
      repeat' (first
        | (rw [wk]; conv => whnf)
        | (refine SEx.mk _ (by first | exact hsome | exact hcall) ?_; conv => whnf)
        | (refine SAnd.mk ⟨by intro c hc; simp at hc; first | (subst hc; rfl) | ((repeat' (rcases hc with rfl | hc)) <;> first | rfl | (subst hc; rfl)), by (simp; first | done | omega), by (simp; first | done | omega)⟩ ?_; conv => whnf)
        | fail)
      refine ⟨⟨k + 1, hkl⟩, by simp only; omega, ?_⟩
      skip
      · refine SLe.of [] [(0, 2)] rfl rfl ?_
        conv => whnf
        repeat' (first
        | exact True.intro
        | (refine SAnd.mk ((take_map_succ hkl _).symm) ?_; conv => whnf)
        | (refine SAnd.mk (PLe.refl _) ?_; conv => whnf))
    · conv => whnf
      have : k = xs.length := by simp at hc; omega
      subst this
      exact ⟨PLe.of_eq (by simp)⟩
end Go.Proofs.Ab.Area
end
section
/- Convex polygons as periodic rows of corners: turned, moved, cut. -/
namespace Go.Proofs.Ab.Area
/-- Corners of a convex polygon, counted on and on. -/
structure Conv (n : Nat) (P : Nat → Pt) : Prop where
  n3 : 3 ≤ n
  per : ∀ i, P (i + n) = P i
  left : ∀ i j, 0 ≤ cr (P i) (P (i + 1)) (P j)
  turn : ∀ i, 0 < cr (P i) (P (i + 1)) (P (i + 2))
  dist : ∀ i j, i < n → j < n → i ≠ j → P i ≠ P j
theorem Conv.mod {n : Nat} {P : Nat → Pt} (h : ∀ i, P (i + n) = P i) (i : Nat) : P (i % n) = P i := by
  have : ∀ k j, P (j + n * k) = P j := by
    intro k
    induction k with
    | zero => intro j; simp
    | succ k ih => intro j; rw [Nat.mul_succ, ← Nat.add_assoc, h, ih]
  conv => rhs; rw [← Nat.mod_add_div i n]
  rw [this]
theorem Conv.dist' {n : Nat} {P : Nat → Pt} (h : Conv n P) {i j : Nat} (hij : i % n ≠ j % n) : P i ≠ P j := by
  have hn := h.n3
  rw [← Conv.mod h.per i, ← Conv.mod h.per j]
  exact h.dist _ _ (Nat.mod_lt _ (by omega)) (Nat.mod_lt _ (by omega)) hij
/-- .. that begin with another corner. -/
theorem Conv.turned {n : Nat} {P : Nat → Pt} (h : Conv n P) (k : Nat) : Conv n fun i => P (i + k) := by
  have hn := h.n3
  refine ⟨h.n3, fun i => ?_, fun i j => ?_, fun i => ?_, fun i j hi hj hij => ?_⟩
  · have := h.per (i + k)
    rw [show i + n + k = i + k + n by omega]
    exact this
  · have := h.left (i + k) (j + k)
    rw [show i + 1 + k = i + k + 1 by omega]
    exact this
  · have := h.turn (i + k)
    rw [show i + 1 + k = i + k + 1 by omega, show i + 2 + k = i + k + 2 by omega]
    exact this
  · refine h.dist' fun e => hij ?_
    have e1 := Nat.add_mod i k n
    have e2 := Nat.add_mod j k n
    rw [Nat.mod_eq_of_lt hi] at e1
    rw [Nat.mod_eq_of_lt hj] at e2
    rw [e1, e2] at e
    have hk := Nat.mod_lt k (show 0 < n by omega)
    generalize k % n = q at *
    have f : ∀ x, x < n → (x + q) % n = if x + q < n then x + q else x + q - n := fun x hx => by
      split
      · rename_i hh; exact Nat.mod_eq_of_lt hh
      · rename_i hh
        rw [Nat.mod_eq_sub_mod (by omega), Nat.mod_eq_of_lt (by omega)]
    rw [f i hi, f j hj] at e
    split at e <;> split at e <;> omega
/-- .. moved. -/
theorem Conv.moved {n : Nat} {P : Nat → Pt} (h : Conv n P) (dx dy : Int) : Conv n fun i => ⟨(P i).x + dx, (P i).y + dy⟩ := by
  have e : ∀ a b c : Pt, cr ⟨a.x + dx, a.y + dy⟩ ⟨b.x + dx, b.y + dy⟩ ⟨c.x + dx, c.y + dy⟩ = cr a b c := fun a b c => by simp only [cr]; grind
  refine ⟨h.n3, fun i => by rw [h.per], fun i j => by rw [e]; exact h.left i j, fun i => by rw [e]; exact h.turn i, fun i j hi hj hij he => h.dist i j hi hj hij ?_⟩
  injection he with h1 h2
  cases hp : P i
  cases hq : P j
  rw [hp, hq] at h1 h2
  simp only at h1 h2
  rename_i a1 a2 b1 b2
  have g1 : a1 = b1 := by omega
  have g2 : a2 = b2 := by omega
  rw [g1, g2]
/-- No corner lies within the triangle of a corner and its neighbours. -/
theorem Conv.chord {n : Nat} {P : Nat → Pt} (h : Conv n P) {k : Nat} (h1 : 2 ≤ k) (h2 : k + 2 ≤ n) : 0 < cr (P (n - 1)) (P 1) (P k) := by
  have e0 : P n = P 0 := by have := h.per 0; rwa [Nat.zero_add] at this
  have hu := h.left (n - 1) k
  have ht := h.turn (n - 1)
  rw [show n - 1 + 1 = n by omega, e0] at hu
  rw [show n - 1 + 1 = n by omega, show n - 1 + 2 = 1 + n by omega, e0, h.per] at ht
  have hk := h.turn (k - 1)
  rw [show k - 1 + 1 = k by omega, show k - 1 + 2 = k + 1 by omega] at hk
  have l1 := fun j => h.left (k - 1) j
  rw [show k - 1 + 1 = k by omega] at l1
  have l2 := fun j => h.left k j
  have dd : ∀ j, j < n → j ≠ k → P j ≠ P k := fun j hj hne => h.dist j k hj (by omega) hne
  exact Area.chord hk ht hu (h.left 0 k) (l1 _) (l2 _) (l1 0) (l2 0) (l1 1) (l2 1) (dd (n - 1) (by omega) (by omega)) (dd 0 (by omega) (by omega)) (dd 1 (by omega) (by omega))
/-- Without its first corner a polygon with four corners or more is convex as well. -/
theorem Conv.rest {n : Nat} {P : Nat → Pt} (h : Conv n P) (h4 : 4 ≤ n) : Conv (n - 1) fun i => P (i % (n - 1) + 1) := by
  have hz : ∀ a b : Pt, cr a b a = 0 ∧ cr a b b = 0 := fun a b => ⟨by simp only [cr]; grind, by simp only [cr]; grind⟩
  have hm : ∀ i, i % (n - 1) < n - 1 := fun i => Nat.mod_lt _ (by omega)
  have hs : ∀ i, (i + 1) % (n - 1) = if i % (n - 1) + 1 = n - 1 then 0 else i % (n - 1) + 1 := fun i => by
    rw [Nat.add_mod, Nat.mod_eq_of_lt (show 1 < n - 1 by omega)]
    have := hm i
    split
    · rename_i e; rw [e]; exact Nat.mod_self _
    · exact Nat.mod_eq_of_lt (by omega)
  refine ⟨by omega, fun i => by rw [Nat.add_mod_right], fun i j => ?_, fun i => ?_, fun i j hi hj hij => ?_⟩
  · have hi := hm i
    have hj := hm j
    rw [hs i]
    generalize i % (n - 1) = p at *
    generalize j % (n - 1) = q at *
    split
    · rename_i e
      rw [e]
      show 0 ≤ cr (P (n - 1)) (P 1) (P (q + 1))
      by_cases c1 : q + 1 = n - 1
      · rw [c1]; have := (hz (P (n - 1)) (P 1)).1; omega
      · by_cases c2 : q = 0
        · subst c2; have := (hz (P (n - 1)) (P 1)).2; simp only [Nat.zero_add]; omega
        · exact Int.le_of_lt (h.chord (by omega) (by omega))
    · exact h.left (p + 1) (q + 1)
  · have e2 : (i + 2) % (n - 1) = if (i + 1) % (n - 1) + 1 = n - 1 then 0 else (i + 1) % (n - 1) + 1 := hs (i + 1)
    have hi := hm i
    rw [e2, hs i]
    generalize i % (n - 1) = p at *
    by_cases c1 : p + 1 = n - 1
    · rw [if_pos c1, c1]
      rw [if_neg (by omega)]
      show 0 < cr (P (n - 1)) (P 1) (P 2)
      exact h.chord (by omega) (by omega)
    · rw [if_neg c1]
      by_cases c2 : p + 1 + 1 = n - 1
      · rw [if_pos c2, c2]
        show 0 < cr (P (p + 1)) (P (n - 1)) (P 1)
        rw [cr_cyc]
        exact h.chord (by omega) (by omega)
      · rw [if_neg c2]
        exact h.turn (p + 1)
  · have e1 : i % (n - 1) = i := Nat.mod_eq_of_lt hi
    have e2 : j % (n - 1) = j := Nat.mod_eq_of_lt hj
    rw [e1, e2]
    exact h.dist _ _ (by omega) (by omega) (by omega)
/-- Twice the size: the sum over the edges. -/
def area2 (P : Nat → Pt) : Nat → Int
  | 0 => 0
  | k + 1 => area2 P k + ((P k).x * (P (k + 1)).y - (P (k + 1)).x * (P k).y)
theorem area2_fan (P : Nat → Pt) (k : Nat) : area2 P (k + 1) = area2 (fun i => P (i + 1)) k + ((P 0).x * (P 1).y - (P 1).x * (P 0).y) := by
  induction k with
  | zero => simp [area2]
  | succ k ih =>
    rw [area2, ih]
    show _ = area2 (fun i => P (i + 1)) k + ((P (k + 1)).x * (P (k + 1 + 1)).y - (P (k + 1 + 1)).x * (P (k + 1)).y) + _
    omega
theorem area2_turn {n : Nat} {P : Nat → Pt} (h : ∀ i, P (i + n) = P i) (k : Nat) : area2 (fun i => P (i + k)) n = area2 P n := by
  induction k with
  | zero => rfl
  | succ k ih =>
    rw [← ih]
    have h1 : area2 (fun i => P (i + k)) (n + 1) = area2 (fun i => P (i + 1 + k)) n + ((P (0 + k)).x * (P (1 + k)).y - (P (1 + k)).x * (P (0 + k)).y) := area2_fan (fun i => P (i + k)) n
    have h2 : area2 (fun i => P (i + k)) (n + 1) = area2 (fun i => P (i + k)) n + ((P (n + k)).x * (P (n + 1 + k)).y - (P (n + 1 + k)).x * (P (n + k)).y) := rfl
    have e1 : P (n + k) = P (0 + k) := by rw [show n + k = k + n by omega, h, Nat.zero_add]
    have e2 : P (n + 1 + k) = P (1 + k) := by rw [show n + 1 + k = 1 + k + n by omega, h]
    rw [e1, e2] at h2
    have e3 : (fun i => P (i + (k + 1))) = fun i => P (i + 1 + k) := by
      funext i
      rw [show i + (k + 1) = i + 1 + k by omega]
    rw [e3]
    omega
/-- A convex polygon's size is above 0. -/
theorem Conv.area_pos {n : Nat} {P : Nat → Pt} (h : Conv n P) : 0 < area2 P n := by
  have step : ∀ k, area2 P (k + 1) + ((P (k + 1)).x * (P 0).y - (P 0).x * (P (k + 1)).y) = area2 P k + ((P k).x * (P 0).y - (P 0).x * (P k).y) + cr (P k) (P (k + 1)) (P 0) := by
    intro k
    rw [area2]
    simp only [cr]
    grind
  have base : ∀ k, 0 ≤ area2 P k + ((P k).x * (P 0).y - (P 0).x * (P k).y) := by
    intro k
    induction k with
    | zero => simp only [area2]; omega
    | succ k ih =>
      rw [step]
      have := h.left k 0
      omega
  have two : 0 < area2 P 3 + ((P 3).x * (P 0).y - (P 0).x * (P 3).y) := by
    rw [step 2]
    have b := base 2
    have e := step 1
    have b1 := base 1
    have t : 0 < cr (P 1) (P 2) (P 0) := by
      have := h.turn 0
      rw [Nat.zero_add, Nat.zero_add] at this
      rw [← cr_cyc]
      exact this
    have := h.left 2 0
    simp only [Nat.reduceAdd] at *
    omega
  have fin : ∀ k, 0 < area2 P (3 + k) + ((P (3 + k)).x * (P 0).y - (P 0).x * (P (3 + k)).y) := by
    intro k
    induction k with
    | zero => exact two
    | succ k ih =>
      rw [show 3 + (k + 1) = (3 + k) + 1 by omega, step]
      have := h.left (3 + k) 0
      omega
  have := fin (n - 3)
  have hn := h.n3
  rw [show 3 + (n - 3) = n by omega] at this
  have e0 : P n = P 0 := by have := h.per 0; rwa [Nat.zero_add] at this
  rw [e0] at this
  have e : (P 0).x * (P 0).y - (P 0).x * (P 0).y = 0 := by omega
  omega
/-- A cut: the first corner's triangle and the rest. -/
theorem area_cut {n : Nat} {P : Nat → Pt} (h : ∀ i, P (i + n) = P i) (h2 : 2 ≤ n) :
    area2 P n = (((P (n - 1)).x * (P 0).y - (P 0).x * (P (n - 1)).y) + ((P 0).x * (P 1).y - (P 1).x * (P 0).y) + ((P 1).x * (P (n - 1)).y - (P (n - 1)).x * (P 1).y)) +
      (area2 (fun i => P (i + 1)) (n - 2) + ((P (n - 1)).x * (P 1).y - (P 1).x * (P (n - 1)).y)) := by
  have e0 : P n = P 0 := by have := h 0; rwa [Nat.zero_add] at this
  have h1 := area2_fan P (n - 1)
  rw [show n - 1 + 1 = n by omega] at h1
  have h3 : area2 (fun i => P (i + 1)) (n - 1) = area2 (fun i => P (i + 1)) (n - 2) + ((P (n - 1)).x * (P n).y - (P n).x * (P (n - 1)).y) := by
    conv => lhs; rw [show n - 1 = (n - 2) + 1 by omega]
    rw [area2]
    rw [show n - 2 + 1 = n - 1 by omega, show n - 1 + 1 = n by omega]
  rw [e0] at h3
  omega
/-- A point in a convex polygon is no further to any side than all of its corners. -/
theorem Conv.within {n : Nat} {P : Nat → Pt} (h : Conv n P) {q : Pt} (hq : ∀ i, 0 ≤ cr (P i) (P (i + 1)) q) (f g : Int) : ∃ i, i < n ∧ f * q.x + g * q.y ≤ f * (P i).x + g * (P i).y := by
  have hn := h.n3
  have mx : ∀ m, ∃ i, i < m + 1 ∧ ∀ j, j < m + 1 → f * (P j).x + g * (P j).y ≤ f * (P i).x + g * (P i).y := by
    intro m
    induction m with
    | zero => exact ⟨0, by omega, fun j hj => by have : j = 0 := by omega
                                                 subst this; exact Int.le_refl _⟩
    | succ m ih =>
      obtain ⟨i, hi, hm⟩ := ih
      rcases Int.le_total (f * (P (m + 1)).x + g * (P (m + 1)).y) (f * (P i).x + g * (P i).y) with hc | hc
      · refine ⟨i, by omega, fun j hj => ?_⟩
        by_cases e : j = m + 1
        · subst e; exact hc
        · exact hm j (by omega)
      · refine ⟨m + 1, by omega, fun j hj => ?_⟩
        by_cases e : j = m + 1
        · subst e; exact Int.le_refl _
        · exact Int.le_trans (hm j (by omega)) hc
  obtain ⟨i, hi, hm⟩ := mx (n - 1)
  rw [show n - 1 + 1 = n by omega] at hi hm
  have all : ∀ j, f * (P j).x + g * (P j).y ≤ f * (P i).x + g * (P i).y := fun j => by
    rw [← Conv.mod h.per j]
    exact hm _ (Nat.mod_lt _ (by omega))
  refine ⟨i, hi, ?_⟩
  have t := h.turn (i + n - 1)
  have q1 := hq (i + n - 1)
  rw [show i + n - 1 + 1 = i + n by omega, show i + n - 1 + 2 = i + 1 + n by omega, h.per, h.per] at t
  rw [show i + n - 1 + 1 = i + n by omega, h.per] at q1
  exact cone t q1 (hq i) f g (all _) (all _)
end Go.Proofs.Ab.Area
end
section
/- Valid polygons are convex ones: turned, moved, cut; what a box meets. -/
namespace Go.Proofs.Ab.Area
open Go Go.Proofs.Ab
theorem cor_per (l : List Pt) (i : Nat) : cor l (i + l.length) = cor l i := by unfold cor; rw [Nat.add_mod_right]
theorem cor_lt {l : List Pt} {i : Nat} (h : i < l.length) : cor l i = l[i] := by
  unfold cor
  rw [Nat.mod_eq_of_lt h, List.getD_eq_getElem?_getD, List.getElem?_eq_getElem h]
  rfl
theorem cor_mod (l : List Pt) (i : Nat) : cor l (i % l.length) = cor l i := by unfold cor; rw [Nat.mod_mod]
theorem cor_mod1 (l : List Pt) (i k : Nat) : cor l (i % l.length + k) = cor l (i + k) := by unfold cor; rw [Nat.mod_add_mod]
theorem cor_mem {l : List Pt} (h : 0 < l.length) (i : Nat) : cor l i ∈ l := by
  rw [← cor_mod, cor_lt (Nat.mod_lt i h)]
  exact List.getElem_mem _
theorem mem_cor {l : List Pt} {c : Pt} (h : c ∈ l) : ∃ i, i < l.length ∧ cor l i = c := by
  obtain ⟨i, hi, e⟩ := List.getElem_of_mem h
  exact ⟨i, hi, by rw [cor_lt hi]; exact e⟩
structure Poly (l : List Pt) : Prop where
  n8 : l.length ≤ 8
  conv : Conv l.length (cor l)
  rng : ∀ p ∈ l, ptE p = 0
theorem badB_false {l : List Pt} {i : Nat} : badB l i = false ↔ (∀ c ∈ l, 0 ≤ cr (cor l i) (cor l (i + 1)) c) ∧ 0 < cr (cor l i) (cor l (i + 1)) (cor l (i + 2)) ∧ ∀ c ∈ l.take i, c ≠ cor l i := by
  unfold badB
  rw [Bool.or_eq_false_iff, Bool.or_eq_false_iff, List.any_eq_false, List.any_eq_false, decide_eq_false_iff_not, and_assoc]
  refine and_congr ?_ (and_congr ?_ ?_)
  · exact ⟨fun h c hc => by have := h c hc; rw [decide_eq_true_eq] at this; omega, fun h c hc => by have := h c hc; rw [decide_eq_true_eq]; omega⟩
  · omega
  · exact ⟨fun h c hc => by have := h c hc; rwa [decide_eq_true_eq] at this, fun h c hc => by rw [decide_eq_true_eq]; exact h c hc⟩
theorem polyF_zero {l : List Pt} : polyF l = 0 ↔ (3 ≤ l.length ∧ l.length ≤ 8) ∧ ∀ p ∈ l, ptE p = 0 := by
  unfold polyF
  rw [firstOf_zero, firstOf_zero, firstOf_zero, firstOf_all]
  constructor
  · rintro ⟨h1, h2, h3, _⟩
    refine ⟨⟨?_, ?_⟩, fun p hp => h3 _ (List.mem_map_of_mem hp)⟩
    · split at h1
      · cases h1
      · omega
    · split at h2
      · cases h2
      · omega
  · rintro ⟨⟨h1, h2⟩, h3⟩
    refine ⟨by rw [if_neg (by omega)], by rw [if_neg (by omega)], fun x hx => ?_, rfl⟩
    obtain ⟨p, hp, rfl⟩ := List.mem_map.1 hx
    exact h3 p hp
theorem polyE_zero {l : List Pt} : polyE l = 0 ↔ Poly l := by
  unfold polyE
  constructor
  · intro h
    split at h
    case isFalse h1 => exact absurd h h1
    case isTrue h1 =>
    obtain ⟨⟨h3, h8⟩, hr⟩ := polyF_zero.1 h1
    split at h
    · cases h
    · rename_i hb
      have hb : ∀ i, i < l.length → badB l i = false := fun i hi => by
        cases e : badB l i with
        | false => rfl
        | true => exact absurd (List.any_eq_true.2 ⟨i, List.mem_range.2 hi, e⟩) hb
      have hall : ∀ i, (∀ c ∈ l, 0 ≤ cr (cor l i) (cor l (i + 1)) c) ∧ 0 < cr (cor l i) (cor l (i + 1)) (cor l (i + 2)) := fun i => by
        have h1 := badB_false.1 (hb (i % l.length) (Nat.mod_lt _ (by omega)))
        rw [cor_mod, cor_mod1, cor_mod1] at h1
        exact ⟨h1.1, h1.2.1⟩
      have hlt : ∀ i j, i < j → j < l.length → cor l i ≠ cor l j := fun i j hij hj => by
        have h1 := (badB_false.1 (hb j hj)).2.2
        rw [cor_lt (show i < l.length by omega)]
        refine h1 _ ?_
        have : (l.take j)[i]'(by rw [List.length_take]; omega) = l[i] := by simp
        rw [← this]
        exact List.getElem_mem _
      refine ⟨h8, ⟨h3, cor_per l, fun i j => (hall i).1 _ (cor_mem (by omega) j), fun i => (hall i).2, fun i j hi hj hne => ?_⟩, hr⟩
      rcases Nat.lt_or_ge i j with h | h
      · exact hlt i j h hj
      · exact fun e => hlt j i (by omega) hi e.symm
  · rintro ⟨h8, hc, hr⟩
    have h3 := hc.n3
    rw [if_pos (polyF_zero.2 ⟨⟨h3, h8⟩, hr⟩), if_neg]
    intro h
    obtain ⟨i, hi, hb⟩ := List.any_eq_true.1 h
    have hi := List.mem_range.1 hi
    have : badB l i = false := badB_false.2 ⟨fun c hm => by
      obtain ⟨j, _, rfl⟩ := mem_cor hm
      exact hc.left i j, hc.turn i, fun c hm => by
      obtain ⟨j, hj, e⟩ := List.getElem_of_mem hm
      rw [List.length_take] at hj
      have e2 : c = cor l j := by rw [cor_lt (by omega), ← e]; simp
      rw [e2]
      exact hc.dist j i (by omega) hi (by omega)⟩
    rw [this] at hb
    cases hb
theorem inB_iff {l : List Pt} {p : Pt} (h : 0 < l.length) : inB l p = true ↔ ∀ i, 0 ≤ cr (cor l i) (cor l (i + 1)) p := by
  unfold inB
  rw [List.all_eq_true]
  constructor
  · intro hh i
    have := hh (i % l.length) (List.mem_range.2 (Nat.mod_lt _ h))
    rw [decide_eq_true_eq, cor_mod, cor_mod1] at this
    exact this
  · intro hh i _
    rw [decide_eq_true_eq]
    exact hh i
theorem sizeI_eq (l : List Pt) (k : Nat) : sizeI l k = area2 (cor l) k := by
  induction k with
  | zero => rfl
  | succ k ih => simp only [sizeI, area2, ih]
theorem sepB_iff {l : List Pt} {b : Bx} (h : 0 < l.length) : sepB l b = true ↔ ∃ i, ∀ p ∈ corners b, cr (cor l i) (cor l (i + 1)) p < 0 := by
  unfold sepB
  rw [List.any_eq_true]
  constructor
  · rintro ⟨i, _, hi⟩
    rw [List.all_eq_true] at hi
    exact ⟨i, fun p hp => by simpa using hi p hp⟩
  · rintro ⟨i, hi⟩
    refine ⟨i % l.length, List.mem_range.2 (Nat.mod_lt _ h), ?_⟩
    rw [List.all_eq_true]
    intro p hp
    rw [decide_eq_true_eq, cor_mod, cor_mod1]
    exact hi p hp
theorem corners_four {b : Bx} {P : Pt → Prop} : (∀ p ∈ corners b, P p) ↔ ∀ p ∈ four b, P p := by
  unfold corners
  split
  · rename_i h
    obtain ⟨⟨x, y⟩, ⟨u, v⟩⟩ := b
    injection h with h1 h2
    subst h1 h2
    simp [four]
  · exact Iff.rfl
/-- A point of the box in the polygon: they meet. -/
theorem meets_of {l : List Pt} {b : Bx} (hl : Poly l) {p : Pt} (hx : b.lo.x ≤ p.x ∧ p.x ≤ b.hi.x) (hy : b.lo.y ≤ p.y ∧ p.y ≤ b.hi.y) (hp : inB l p = true) : meetsB l b = true := by
  have h3 := hl.conv.n3
  have hin := (inB_iff (by omega)).1 hp
  unfold meetsB
  rw [Bool.and_eq_true, Bool.not_eq_true', Bool.not_eq_true']
  constructor
  · cases e : sepB l b with
    | false => rfl
    | true =>
      obtain ⟨i, hi⟩ := (sepB_iff (by omega)).1 e
      rw [corners_four] at hi
      have := box_right (a := cor l i) (b := cor l (i + 1)) (p := p) (x0 := b.lo.x) (y0 := b.lo.y) (x1 := b.hi.x) (y1 := b.hi.y) hx hy (hi _ (by simp [four])) (hi _ (by simp [four])) (hi _ (by simp [four])) (hi _ (by simp [four]))
      have := hin i
      omega
  · have out : ∀ f g : Int, ∃ q ∈ l, f * p.x + g * p.y ≤ f * q.x + g * q.y := fun f g => by
      obtain ⟨i, _, h⟩ := hl.conv.within hin f g
      exact ⟨cor l i, cor_mem (by omega) i, h⟩
    have no : ∀ P : Pt → Bool, (∃ q ∈ l, P q = false) → l.all P = false := fun P ⟨q, hq, e⟩ => by
      rw [List.all_eq_false]
      exact ⟨q, hq, by rw [e]; simp⟩
    unfold sideB
    rw [Bool.or_eq_false_iff, Bool.or_eq_false_iff, Bool.or_eq_false_iff]
    refine ⟨⟨⟨no _ ?_, no _ ?_⟩, no _ ?_⟩, no _ ?_⟩
    · obtain ⟨q, hq, h⟩ := out 1 0
      exact ⟨q, hq, decide_eq_false (by omega)⟩
    · obtain ⟨q, hq, h⟩ := out (-1) 0
      exact ⟨q, hq, decide_eq_false (by omega)⟩
    · obtain ⟨q, hq, h⟩ := out 0 1
      exact ⟨q, hq, decide_eq_false (by omega)⟩
    · obtain ⟨q, hq, h⟩ := out 0 (-1)
      exact ⟨q, hq, decide_eq_false (by omega)⟩
/-- A box of one point. -/
theorem meets_point {l : List Pt} (hl : Poly l) (p : Pt) : meetsB l ⟨p, p⟩ = inB l p := by
  have h3 := hl.conv.n3
  cases e : inB l p with
  | true => exact meets_of hl ⟨Int.le_refl _, Int.le_refl _⟩ ⟨Int.le_refl _, Int.le_refl _⟩ e
  | false =>
    have : sepB l ⟨p, p⟩ = true := by
      rw [sepB_iff (by omega)]
      have hn : ¬ ∀ i, 0 ≤ cr (cor l i) (cor l (i + 1)) p := fun h => by
        rw [(inB_iff (by omega)).2 h] at e
        cases e
      obtain ⟨i, hi⟩ := Classical.not_forall.1 hn
      refine ⟨i, fun q hq => ?_⟩
      rw [show corners ⟨p, p⟩ = [p] from if_pos rfl] at hq
      simp only [List.mem_singleton] at hq
      subst hq
      omega
    unfold meetsB
    rw [this]
    rfl
/-- A lesser box meets no more. -/
theorem meets_less {l : List Pt} {b c : Bx} (h : 0 < l.length) (hx : b.lo.x ≤ c.lo.x ∧ c.hi.x ≤ b.hi.x) (hy : b.lo.y ≤ c.lo.y ∧ c.hi.y ≤ b.hi.y) (hc : c.lo.x ≤ c.hi.x ∧ c.lo.y ≤ c.hi.y) (hm : meetsB l c = true) : meetsB l b = true := by
  unfold meetsB at *
  rw [Bool.and_eq_true, Bool.not_eq_true', Bool.not_eq_true'] at *
  constructor
  · cases e : sepB l b with
    | false => rfl
    | true =>
      obtain ⟨i, hi⟩ := (sepB_iff h).1 e
      rw [corners_four] at hi
      have : sepB l c = true := by
        rw [sepB_iff h]
        refine ⟨i, ?_⟩
        rw [corners_four]
        have bx := fun (p : Pt) (hx : b.lo.x ≤ p.x ∧ p.x ≤ b.hi.x) (hy : b.lo.y ≤ p.y ∧ p.y ≤ b.hi.y) => box_right (a := cor l i) (b := cor l (i + 1)) (p := p) (x0 := b.lo.x) (y0 := b.lo.y) (x1 := b.hi.x) (y1 := b.hi.y) hx hy (hi _ (by simp [four])) (hi _ (by simp [four])) (hi _ (by simp [four])) (hi _ (by simp [four]))
        intro p hp
        simp only [four, List.mem_cons, List.not_mem_nil, or_false] at hp
        rcases hp with rfl | rfl | rfl | rfl
        · exact bx _ (by omega) (by omega)
        · exact bx _ (by simp only; omega) (by simp only; omega)
        · exact bx _ (by omega) (by omega)
        · exact bx _ (by simp only; omega) (by simp only; omega)
      rw [this] at hm
      exact absurd hm.1 (by simp)
  · have h2 := hm.2
    unfold sideB at *
    rw [Bool.or_eq_false_iff, Bool.or_eq_false_iff, Bool.or_eq_false_iff] at *
    obtain ⟨⟨⟨a1, a2⟩, a3⟩, a4⟩ := h2
    have tr : ∀ P Q : Pt → Bool, (∀ q, Q q = true → P q = true) → l.all P = false → l.all Q = false := fun P Q hPQ hP => by
      cases e : l.all Q with
      | false => rfl
      | true =>
        rw [List.all_eq_true] at e
        rw [List.all_eq_true.2 fun q hq => hPQ q (e q hq)] at hP
        cases hP
    exact ⟨⟨⟨tr _ _ (fun q hq => by simp only [decide_eq_true_eq] at *; omega) a1, tr _ _ (fun q hq => by simp only [decide_eq_true_eq] at *; omega) a2⟩, tr _ _ (fun q hq => by simp only [decide_eq_true_eq] at *; omega) a3⟩, tr _ _ (fun q hq => by simp only [decide_eq_true_eq] at *; omega) a4⟩
end Go.Proofs.Ab.Area
end
section
/- Points in a list; points in a polygon; a polygon's size and errors. -/
set_option maxRecDepth 100000
set_option linter.unusedVariables false
set_option linter.unusedSimpArgs false
namespace Go.Proofs.Ab.Area
open Go Go.RowKit Go.Proofs.Ab
/-- A piece of a piece of code. -/
def pieceAt : List Nat → Code → Code
  | 0 :: r, .seq c _ => pieceAt r c
  | 1 :: r, .seq _ c => pieceAt r c
  | 0 :: r, .block _ c => pieceAt r c
  | 0 :: r, .loop c => pieceAt r c
  | 0 :: r, .scope c => pieceAt r c
  | 0 :: r, .cond _ c _ => pieceAt r c
  | 1 :: r, .cond _ _ c => pieceAt r c
  | _, c => c
/-- What is asked of a function's end. -/
abbrev endV (m : Int) (rs : List ResultVar) (v : PV) : Out → AS → Prop := fun e s => match e with
  | .exit _ => False
  | _ => endK (C m) rs s v
theorem cor_mod_lt {l : List Pt} (h : 0 < l.length) (i : Nat) : (l.map pc)[i % l.length]? = some (pc (cor l i)) := by
  have hi := Nat.mod_lt i h
  rw [List.getElem?_map, List.getElem?_eq_getElem hi, ← cor_mod l i, cor_lt hi]
  rfl
theorem cor_some {l : List Pt} (h : 0 < l.length) (k j : Nat) : 0 ≤ ((k : Int) + (j : Int)).tmod (l.length : Int) ∧ (l.map pc)[(((k : Int) + (j : Int)).tmod (l.length : Int)).toNat]? = some (pc (cor l (k + j))) := by
  have e : ((k : Int) + (j : Int)).tmod (l.length : Int) = (((k + j) % l.length : Nat) : Int) := by
    rw [← Int.natCast_add, Int.ofNat_tmod]
  rw [e]
  exact ⟨Int.natCast_nonneg _, cor_mod_lt h (k + j)⟩
theorem cor_at {l : List Pt} {k : Nat} (h : k < l.length) : 0 ≤ (k : Int) ∧ (l.map pc)[((k : Int)).toNat]? = some (pc (cor l k)) := by
  refine ⟨Int.natCast_nonneg _, ?_⟩
  show (l.map pc)[k]? = _
  have := cor_mod_lt (l := l) (by omega) k
  rwa [Nat.mod_eq_of_lt h] at this
theorem range_all {f : Nat → Bool} {k : Nat} : (List.range (k + 1)).all f = ((List.range k).all f && f k) := by
  rw [List.range_succ, List.all_append]
  simp
theorem range_any {f : Nat → Bool} {k : Nat} : (List.range (k + 1)).any f = ((List.range k).any f || f k) := by
  rw [List.range_succ, List.any_append]
  simp
theorem range_all_false {f : Nat → Bool} {k n : Nat} (h : k < n) (hf : f k = false) : (List.range n).all f = false := by
  rw [List.all_eq_false]
  exact ⟨k, List.mem_range.2 h, by rw [hf]; simp⟩
theorem range_any_true {f : Nat → Bool} {k n : Nat} (h : k < n) (hf : f k = true) : (List.range n).any f = true := List.any_eq_true.2 ⟨k, List.mem_range.2 h, hf⟩
theorem in_pure {m : Int} (l : List Pt) (p : Pt) (hl : l.length ≤ 1000000) (hf : ∀ q ∈ l, q.Fit) (hp : p.Fit) : APure (C m) 95 [.seq 2 (l.map pc), .agg (pc p)] (Bo (inB l p)) := by
  have hlen : (((l.map pc).length : Nat) : Int) = l.length := by simp
  refine APure.of_body good [] (fn := Tryz.f95) (by kernel_rfl) (by kernel_rfl) rfl rfl (by kernel_rfl) rfl (by kernel_rfl) ?_
  conv => whnf
  refine ⟨AWp.loop (ι := { k : Nat // k ≤ l.length ∧ (List.range k).all (fun i => decide (0 ≤ cr (cor l i) (cor l (i + 1)) p)) = true }) (fun k => ⟨[(8, .p (I k.1)), (7, .p (I l.length)), (3, .p (.ref (pc p))), (0, .p (.seq 2 (l.map pc)))], [], [], 0, [], [], []⟩) (fun k => l.length - k.1) ⟨0, by simp⟩ ?_ ?_⟩
  · skip
    · refine SLe.of [] [] rfl rfl ?_
      conv => whnf
      repeat' (first
      | exact True.intro
      | (refine SAnd.mk (PLe.refl _) ?_; conv => whnf)
      | (refine SAnd.mk (PLe.of_eq (by simp)) ?_; conv => whnf))
  · rintro ⟨k, hk, hall⟩
    refine codeK_sound good (mu := []) ?_
    conv => whnf
    refine SBool.mk (fun hc => ?_) (fun hc => ?_)
    · have hkl : k < l.length := by simpa using hc
      have hs0 := cor_at hkl
      have hs1 := cor_some (l := l) (by omega) k 1
      have hne : (l.length : Int) ≠ 0 := by omega
      have wk : wrapK IntKind.i64 ((k : Int) + 1) = k + 1 := w64 (by omega)
      have hcr := cross_pure (m := m) (cor l k) (cor l (k + 1)) p (hf _ (cor_mem (by omega) _)) (hf _ (cor_mem (by omega) _)) hp
      have hno : cr (cor l k) (cor l (k + 1)) p < 0 → inB l p = false := fun h => range_all_false hkl (decide_eq_false (by omega))
      have hyes : ¬ cr (cor l k) (cor l (k + 1)) p < 0 → (List.range (k + 1)).all (fun i => decide (0 ≤ cr (cor l i) (cor l (i + 1)) p)) = true := fun h => by rw [range_all, hall, decide_eq_true (by omega)]; rfl
      conv => whnf
      conv => whnf
      repeat' (first
        | (rw [wk]; conv => whnf)
        | (rw [hlen]; conv => whnf)
        | (refine SBool.mk (fun h => ?_) (fun h => ?_) <;> conv => whnf)
        | (refine SEx.mk _ (by first | exact hs0 | exact hs1 | exact hne | exact hcr) ?_; conv => whnf)
        | (refine SAnd.mk (by first | exact hs0 | exact hs1 | exact hne | exact hcr) ?_; conv => whnf)
        | (refine SAnd.mk (by first | exact rfl | kernel_rfl | omega | decide | exact hs0 | exact hs1 | exact hne | exact hcr) ?_; conv => whnf)
        | fail)
      · exact ⟨PLe.of_eq (congrArg Bo (hno (by assumption)).symm)⟩
      · refine ⟨⟨k + 1, hkl, hyes (by assumption)⟩, by simp only; omega, ?_⟩
        skip
        · refine SLe.of [] [] rfl rfl ?_
          conv => whnf
          repeat' (first
          | exact True.intro
          | (refine SAnd.mk (PLe.refl _) ?_; conv => whnf))
    · conv => whnf
      have : k = l.length := by simp at hc; omega
      subst this
      exact ⟨PLe.of_eq (congrArg Bo hall.symm)⟩
end Go.Proofs.Ab.Area
end
