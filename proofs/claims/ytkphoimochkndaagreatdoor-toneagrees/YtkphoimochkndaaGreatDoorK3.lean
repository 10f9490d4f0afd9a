/- The machine, the contracts and the walks on which ToneDepths rests: a part of the proof. -/
import Derived.Test.YtkphoimochkndaaGreatDoorK2
import Derived.Laws.ComplexArith
import Derived.Laws.Cover2
import Derived.Laws.StructEq
import Derived.Laws.Strings
import GoSem.Builtin.Max
import Derived.Lib.LaidTab
import Derived.Lib.ItoaNum
section
/- One state tells no more than another: a check by evaluation. For loops. -/
set_option linter.unusedVariables false
set_option linter.unusedSimpArgs false
namespace Go.Proofs.Ab
open Go Go.RowKit

def nodupB : List Nat → Bool
  | [] => true
  | x :: xs => !(xs.any fun y => Nat.beq y x) && nodupB xs
def renOk (rb : List (Nat × Nat)) (nx : Nat) : Bool := (rb.all fun p => Nat.blt p.1 nx) && nodupB (rb.map Prod.snd)
theorem nodupB_inj : ∀ {rb : List (Nat × Nat)}, nodupB (rb.map Prod.snd) = true → ∀ {n n' m : Nat}, (n, m) ∈ rb → (n', m) ∈ rb → n = n'
  | [], _, n, n', m, h, _ => by cases h
  | (k, v) :: r, hd, n, n', m, h, h' => by
    simp only [List.map_cons, nodupB, Bool.and_eq_true, Bool.not_eq_true', List.any_eq_false] at hd
    have hno : ∀ q, (q, v) ∉ r := fun q hq => by
      have := hd.1 v (List.mem_map.2 ⟨_, hq, rfl⟩)
      simp at this
    rcases List.mem_cons.1 h with e | h1 <;> rcases List.mem_cons.1 h' with e' | h2
    · injection e with e1 e2; injection e' with e3 e4; rw [e1, e3]
    · injection e with e1 e2; subst e2; exact absurd h2 (hno _)
    · injection e' with e1 e2; subst e2; exact absurd h1 (hno _)
    · exact nodupB_inj hd.2 h1 h2
theorem renOk_inj {rb : List (Nat × Nat)} {nx : Nat} (h : renOk rb nx = true) {n n' m : Nat} (h1 : look rb n = some m) (h2 : look rb n' = some m) : n = n' := by
  unfold renOk at h
  rw [Bool.and_eq_true] at h
  exact nodupB_inj h.2 (look_mem h1) (look_mem h2)
theorem renOk_lt {rb : List (Nat × Nat)} {nx : Nat} (h : renOk rb nx = true) {n m : Nat} (h1 : look rb n = some m) : n < nx := by
  unfold renOk at h
  rw [Bool.and_eq_true] at h
  have := List.all_eq_true.1 h.1 _ (look_mem h1)
  simpa [Nat.blt_eq] using this

/-- What a closure holds, under the new names. -/
def capsK (rb : List (Nat × Nat)) : List Cap → List Cap → Prop → Prop
  | [], [], k => k
  | .p x :: r, .p y :: r', k => SAnd (PLe x y) (capsK rb r r' k)
  | .box m off :: r, .box n off' :: r', k => lookK rb n fun m' => bif Nat.beq m' m && Nat.beq off off' then capsK rb r r' k else False
  | _, _, _ => False
theorem capsK_sound {rb : List (Nat × Nat)} {w : World} {E : Env} {ν : Nat → Option Value} : ∀ {cs ds : List Cap} {k : Prop}, capsK rb cs ds k → k ∧ cs.length = ds.length ∧ ∀ (j : Nat) (c d : Cap) (u : Value), cs[j]? = some c → ds[j]? = some d → CapRep w E c u → CapRep w ⟨E.ok, fun n => (look rb n).bind E.β, ν⟩ d u
  | [], [], k, h => ⟨h, rfl, fun j c d u hc => by simp at hc⟩
  | .p x :: r, .p y :: r', k, h => by
    obtain ⟨hk, hl, hr⟩ := capsK_sound h.k
    refine ⟨hk, by simp [hl], fun j c d u hc hd hu => ?_⟩
    cases j with
    | zero => simp at hc hd; subst hc; subst hd; exact h.h _ _ _ hu
    | succ j => simp at hc hd; exact hr j c d u hc hd hu
  | .box m off :: r, .box n off' :: r', k, h => by
    unfold capsK at h
    obtain ⟨m', hm, h3⟩ := lookK_sound h
    cases hb : Nat.beq m' m && Nat.beq off off' with
    | false => simp only [hb] at h3; exact h3.elim
    | true =>
      simp only [hb, cond_true] at h3
      rw [Bool.and_eq_true] at hb
      obtain rfl := Nat.eq_of_beq_eq_true hb.1
      obtain rfl := Nat.eq_of_beq_eq_true hb.2
      obtain ⟨hk, hl, hr⟩ := capsK_sound h3
      refine ⟨hk, by simp [hl], fun j c d u hc hd hu => ?_⟩
      cases j with
      | zero =>
        simp at hc hd; subst hc; subst hd
        obtain ⟨g, hg, e⟩ := hu
        exact ⟨g, by simp only [hm]; exact hg, e⟩
      | succ j => simp at hc hd; exact hr j c d u hc hd hu
  | [], _ :: _, k, h => by simp [capsK] at h
  | _ :: _, [], k, h => by simp [capsK] at h
  | .p _ :: _, .box _ _ :: _, k, h => by simp [capsK] at h
  | .box _ _ :: _, .p _ :: _, k, h => by simp [capsK] at h
def leFrK (rb rr : List (Nat × Nat)) (fr : List (Nat × SV)) : List (Nat × SV) → Prop → Prop
  | [], k => k
  | (t, v) :: r, k => lookK fr t fun u => match v with
    | .p y => (match u with
      | .p x => SAnd (PLe x y) (leFrK rb rr fr r k)
      | _ => False)
    | .box n off' => (match u with
      | .box m off => lookK rb n fun m' => bif Nat.beq m' m && Nat.beq off off' then leFrK rb rr fr r k else False
      | _ => False)
    | .own n => (match u with
      | .own m => lookK rr n fun m' => bif Nat.beq m' m then leFrK rb rr fr r k else False
      | _ => False)
    | .rowp _ _ => False
    | .clo g cs => (match u with
      | .clo g' cs' => bif decide (g' = g) then capsK rb cs' cs (leFrK rb rr fr r k) else False
      | _ => False)
    | .bnd g cs => (match u with
      | .bnd g' cs' => bif decide (g' = g) then capsK rb cs' cs (leFrK rb rr fr r k) else False
      | _ => False)
def leBxK (rb : List (Nat × Nat)) (bx : List (Nat × (Nat × List PV))) : List (Nat × (Nat × List PV)) → Prop → Prop
  | [], k => k
  | (n, (T, ds)) :: r, k => lookK rb n fun m => lookK bx m fun y => bif Nat.beq y.1 T then SAnd (PLeL y.2 ds) (leBxK rb bx r k) else False
def leRwK (rr : List (Nat × Nat)) (rw : List (Nat × (Nat × Nat × List (List PV)))) : List (Nat × (Nat × Nat × List (List PV))) → Prop → Prop
  | [], k => k
  | (n, (e, sz, xs)) :: r, k => lookK rr n fun m => lookK rw m fun y => bif Nat.beq y.1 e && Nat.beq y.2.1 sz then SAnd (y.2.2 = xs) (leRwK rr rw r k) else False

theorem leFrK_sound {rb rr : List (Nat × Nat)} {fr : List (Nat × SV)} {w : World} {E : Env} {tm : Nat → Value} {ok : Nat → Prop} (hfr : ∀ t v, look fr t = some v → ok t ∧ SRep w E v (tm t)) : ∀ {l : List (Nat × SV)} {k : Prop}, leFrK rb rr fr l k → k ∧
    ∀ t v, look l t = some v → ok t ∧ SRep w ⟨E.ok, fun n => (look rb n).bind E.β, fun n => (look rr n).bind E.ν⟩ v (tm t)
  | [], k, h => ⟨h, fun t v ht => by cases ht⟩
  | (t, v) :: r, k, h => by
    obtain ⟨u, hu, h⟩ := lookK_sound h
    have key : leFrK rb rr fr r k → (SRep w ⟨E.ok, fun n => (look rb n).bind E.β, fun n => (look rr n).bind E.ν⟩ v (tm t)) → k ∧
        ∀ t' v', look ((t, v) :: r) t' = some v' → ok t' ∧ SRep w ⟨E.ok, fun n => (look rb n).bind E.β, fun n => (look rr n).bind E.ν⟩ v' (tm t') := fun h hv => by
      obtain ⟨hk, hl⟩ := leFrK_sound hfr h
      refine ⟨hk, fun t' v' ht => ?_⟩
      by_cases e : t = t'
      · subst e
        rw [look_cons_self] at ht
        injection ht with ht
        subst ht
        exact ⟨(hfr t u hu).1, hv⟩
      · rw [look_cons_ne e] at ht
        exact hl t' v' ht
    have hur := (hfr t u hu).2
    cases v with
    | p y =>
      cases u with
      | p x => exact key h.k (h.h _ _ _ hur)
      | _ => exact h.elim
    | box n off' =>
      cases u with
      | box m off =>
        dsimp only at h
        obtain ⟨m', hm, h3⟩ := lookK_sound h
        cases hb : Nat.beq m' m && Nat.beq off off' with
        | false => simp only [hb] at h3; exact h3.elim
        | true =>
          simp only [hb, cond_true] at h3
          rw [Bool.and_eq_true] at hb
          obtain rfl := Nat.eq_of_beq_eq_true hb.1
          obtain rfl := Nat.eq_of_beq_eq_true hb.2
          obtain ⟨g, hg, e⟩ := hur
          exact key h3 ⟨g, by simp only [hm]; exact hg, e⟩
      | _ => exact h.elim
    | own n =>
      cases u with
      | own m =>
        dsimp only at h
        obtain ⟨m', hm, h3⟩ := lookK_sound h
        cases hb : Nat.beq m' m with
        | false => simp only [hb] at h3; exact h3.elim
        | true =>
          simp only [hb, cond_true] at h3
          obtain rfl := Nat.eq_of_beq_eq_true hb
          refine key h3 ?_
          show (look rr n).bind E.ν = some (tm t)
          rw [hm]
          exact hur
      | _ => exact h.elim
    | rowp n off => exact h.elim
    | clo g cs =>
      cases u with
      | clo g' cs' =>
        dsimp only at h
        cases hb : decide (g' = g) with
        | false => simp only [hb] at h; exact h.elim
        | true =>
          simp only [hb, cond_true] at h
          obtain ⟨h3, hl, hr⟩ := capsK_sound (w := w) (E := E) (ν := fun n => (look rr n).bind E.ν) h
          have e := of_decide_eq_true hb
          subst e
          refine key h3 ?_
          obtain ⟨us, e, h4, h5⟩ := hur
          refine ⟨us, e, by rw [h4, hl], fun j d x hd hx => ?_⟩
          have hj : j < cs'.length := by rw [hl]; exact (List.getElem?_eq_some_iff.1 hd).1
          exact hr j cs'[j] d x (List.getElem?_eq_getElem hj) hd (h5 j _ x (List.getElem?_eq_getElem hj) hx)
      | _ => exact h.elim
    | bnd g cs =>
      cases u with
      | bnd g' cs' =>
        dsimp only at h
        cases hb : decide (g' = g) with
        | false => simp only [hb] at h; exact h.elim
        | true =>
          simp only [hb, cond_true] at h
          obtain ⟨h3, hl, hr⟩ := capsK_sound (w := w) (E := E) (ν := fun n => (look rr n).bind E.ν) h
          have e := of_decide_eq_true hb
          subst e
          refine key h3 ?_
          obtain ⟨us, e, h4, h5⟩ := hur
          refine ⟨us, e, by rw [h4, hl], fun j d x hd hx => ?_⟩
          have hj : j < cs'.length := by rw [hl]; exact (List.getElem?_eq_some_iff.1 hd).1
          exact hr j cs'[j] d x (List.getElem?_eq_getElem hj) hd (h5 j _ x (List.getElem?_eq_getElem hj) hx)
      | _ => exact h.elim
theorem capsK_k {rb : List (Nat × Nat)} : ∀ {cs ds : List Cap} {k : Prop}, capsK rb cs ds k → k
  | [], [], k, h => h
  | .p x :: r, .p y :: r', k, h => capsK_k (cs := r) (ds := r') h.k
  | .box m off :: r, .box n off' :: r', k, h => by
    unfold capsK at h
    obtain ⟨m', hm, h3⟩ := lookK_sound h
    cases hb : Nat.beq m' m && Nat.beq off off' with
    | false => simp only [hb] at h3; exact h3.elim
    | true => simp only [hb, cond_true] at h3; exact capsK_k h3
  | [], _ :: _, k, h => by simp [capsK] at h
  | _ :: _, [], k, h => by simp [capsK] at h
  | .p _ :: _, .box _ _ :: _, k, h => by simp [capsK] at h
  | .box _ _ :: _, .p _ :: _, k, h => by simp [capsK] at h
theorem leFrK_k {rb rr : List (Nat × Nat)} {fr : List (Nat × SV)} : ∀ {l : List (Nat × SV)} {k : Prop}, leFrK rb rr fr l k → k
  | [], k, h => h
  | (t, v) :: r, k, h => by
    obtain ⟨u, hu, h⟩ := lookK_sound h
    cases v with
    | p y =>
      cases u with
      | p x => exact leFrK_k h.k
      | _ => exact h.elim
    | box n off' =>
      cases u with
      | box m off =>
        dsimp only at h
        obtain ⟨m', hm, h3⟩ := lookK_sound h
        cases hb : Nat.beq m' m && Nat.beq off off' with
        | false => simp only [hb] at h3; exact h3.elim
        | true => simp only [hb, cond_true] at h3; exact leFrK_k h3
      | _ => exact h.elim
    | own n =>
      cases u with
      | own m =>
        dsimp only at h
        obtain ⟨m', hm, h3⟩ := lookK_sound h
        cases hb : Nat.beq m' m with
        | false => simp only [hb] at h3; exact h3.elim
        | true => simp only [hb, cond_true] at h3; exact leFrK_k h3
      | _ => exact h.elim
    | rowp n off => exact h.elim
    | clo g cs =>
      cases u with
      | clo g' cs' =>
        dsimp only at h
        cases hb : decide (g' = g) with
        | false => simp only [hb] at h; exact h.elim
        | true => simp only [hb, cond_true] at h; exact leFrK_k (capsK_k h)
      | _ => exact h.elim
    | bnd g cs =>
      cases u with
      | bnd g' cs' =>
        dsimp only at h
        cases hb : decide (g' = g) with
        | false => simp only [hb] at h; exact h.elim
        | true => simp only [hb, cond_true] at h; exact leFrK_k (capsK_k h)
      | _ => exact h.elim
theorem leBxK_sound {rb : List (Nat × Nat)} {bx : List (Nat × (Nat × List PV))} : ∀ {l : List (Nat × (Nat × List PV))} {k : Prop}, leBxK rb bx l k → k ∧ ∀ n T ds, look l n = some (T, ds) → ∃ m cs, look rb n = some m ∧ look bx m = some (T, cs) ∧ PLeL cs ds
  | [], k, h => ⟨h, fun n T ds hn => by cases hn⟩
  | (n, (T, ds)) :: r, k, h => by
    obtain ⟨m, hm, h⟩ := lookK_sound h
    obtain ⟨⟨T', cs⟩, hy, h3⟩ := lookK_sound h
    cases hb : Nat.beq T' T with
    | false => simp only [hb] at h3; exact h3.elim
    | true =>
      simp only [hb, cond_true] at h3
      obtain rfl := Nat.eq_of_beq_eq_true hb
      obtain ⟨hk, hl⟩ := leBxK_sound h3.k
      refine ⟨hk, fun n' T'' ds' hn => ?_⟩
      by_cases e : n = n'
      · subst e
        rw [look_cons_self] at hn
        injection hn with hn
        injection hn with e1 e2
        subst e1; subst e2
        exact ⟨m, cs, hm, hy, h3.h⟩
      · rw [look_cons_ne e] at hn
        exact hl n' T'' ds' hn
theorem leRwK_sound {rr : List (Nat × Nat)} {rw : List (Nat × (Nat × Nat × List (List PV)))} : ∀ {l : List (Nat × (Nat × Nat × List (List PV)))} {k : Prop}, leRwK rr rw l k → k ∧ ∀ n x, look l n = some x → ∃ m, look rr n = some m ∧ look rw m = some x
  | [], k, h => ⟨h, fun n x hn => by cases hn⟩
  | (n, (e, sz, xs)) :: r, k, h => by
    obtain ⟨m, hm, h⟩ := lookK_sound h
    obtain ⟨⟨e', sz', xs'⟩, hy, h3⟩ := lookK_sound h
    cases hb : Nat.beq e' e && Nat.beq sz' sz with
    | false => simp only [hb] at h3; exact h3.elim
    | true =>
      simp only [hb, cond_true] at h3
      rw [Bool.and_eq_true] at hb
      obtain rfl := Nat.eq_of_beq_eq_true hb.1
      obtain rfl := Nat.eq_of_beq_eq_true hb.2
      have hx : xs' = xs := h3.h
      subst hx
      obtain ⟨hk, hl⟩ := leRwK_sound h3.k
      refine ⟨hk, fun n' x hn => ?_⟩
      by_cases e : n = n'
      · subst e
        rw [look_cons_self] at hn
        injection hn with hn
        subst hn
        exact ⟨m, hm, hy⟩
      · rw [look_cons_ne e] at hn
        exact hl n' x hn

def leDf : List Nat → List Nat → Prop → Prop
  | [], [], k => k
  | g :: r, g' :: r', k => SAnd (g = g') (leDf r r' k)
  | _, _, _ => False
theorem leDf_sound : ∀ {l l' : List Nat} {k : Prop}, leDf l l' k → k ∧ l = l'
  | [], [], k, h => ⟨h, rfl⟩
  | g :: r, g' :: r', k, h => by
    obtain ⟨hk, e⟩ := leDf_sound h.k
    exact ⟨hk, by rw [e, show g = g' from h.h]⟩
  | [], _ :: _, k, h => by simp [leDf] at h
  | _ :: _, [], k, h => by simp [leDf] at h
def LSt.eqB : LSt → LSt → Bool
  | .ready, .ready => true
  | .busy, .busy => true
  | .done .ret, .done .ret => true
  | .done (.exit a), .done (.exit b) => Nat.beq a b
  | _, _ => false
theorem LSt.eqB_eq {a b : LSt} (h : LSt.eqB a b = true) : a = b := by
  cases a with
  | ready => cases b <;> first | rfl | cases h
  | busy => cases b <;> first | rfl | cases h
  | done j =>
    cases b with
    | done j' =>
      cases j with
      | ret => cases j' with
        | ret => rfl
        | exit _ => cases h
      | exit a => cases j' with
        | ret => cases h
        | exit b => rw [Nat.eq_of_beq_eq_true h]
    | _ => cases j <;> cases h
/-- What is no cells, under the new names. -/
def leObK (rb rr ro : List (Nat × Nat)) (ob : List (Nat × Ob)) : List (Nat × Ob) → Prop → Prop
  | [], k => k
  | (n, o) :: r, k => lookK ro n fun m => lookK ob m fun o' => match o', o with
    | .siter g s pos, .siter g' s' pos' => SAnd (g = g' ∧ s = s' ∧ pos = pos') (leObK rb rr ro ob r k)
    | .mp g es, .mp g' es' => SAnd (g = g' ∧ es = es') (leObK rb rr ro ob r k)
    | .dfr g, .dfr g' => SAnd (g = g') (leObK rb rr ro ob r k)
    | .hold g T x, .hold g' T' x' => bif Nat.beq T T' then SAnd (g = g') (lookK rb n fun m' => bif Nat.beq m' m then leFrK rb rr [(0, x)] [(0, x')] (leObK rb rr ro ob r k) else False) else False
    | .hst g T nc sn, .hst g' T' nc' sn' => bif Nat.beq T T' && Nat.beq nc nc' then SAnd (g = g') (lookK rb n fun m' => bif Nat.beq m' m then leFrK rb rr sn sn' (leObK rb rr ro ob r k) else False) else False
    | .loop g st nt sn L, .loop g' st' nt' sn' L' => bif LSt.eqB st st' && Nat.beq nt nt' then SAnd (g = g' ∧ L = L') (leFrK rb rr sn sn' (leObK rb rr ro ob r k)) else False
    | _, _ => False
theorem leObK_sound {rb rr ro : List (Nat × Nat)} {ob : List (Nat × Ob)} : ∀ {l : List (Nat × Ob)} {k : Prop}, leObK rb rr ro ob l k → k ∧
    ∀ n o, look l n = some o → ∃ m o', look ro n = some m ∧ look ob m = some o' ∧ o'.blk = o.blk ∧ (o.isHold = true → o'.isHold = true ∧ look rb n = some m) ∧ ∀ (w : World) (E : Env) (x : Obj), o'.Is w E x → o.Is w ⟨E.ok, fun n => (look rb n).bind E.β, fun n => (look rr n).bind E.ν⟩ x
  | [], k, h => ⟨h, fun n o hn => by cases hn⟩
  | (n, o) :: r, k, h => by
    obtain ⟨m, hm, h2⟩ := lookK_sound h
    clear h
    obtain ⟨o', ho', h3⟩ := lookK_sound h2
    clear h2
    have key : leObK rb rr ro ob r k → o'.blk = o.blk → (o.isHold = true → o'.isHold = true ∧ look rb n = some m) → (∀ (w : World) (E : Env) (x : Obj), o'.Is w E x → o.Is w ⟨E.ok, fun n => (look rb n).bind E.β, fun n => (look rr n).bind E.ν⟩ x) → k ∧
        ∀ n' q, look ((n, o) :: r) n' = some q → ∃ m o', look ro n' = some m ∧ look ob m = some o' ∧ o'.blk = q.blk ∧ (q.isHold = true → o'.isHold = true ∧ look rb n' = some m) ∧ ∀ (w : World) (E : Env) (x : Obj), o'.Is w E x → q.Is w ⟨E.ok, fun n => (look rb n).bind E.β, fun n => (look rr n).bind E.ν⟩ x := fun h hb hh hi => by
      obtain ⟨hk, hl⟩ := leObK_sound h
      refine ⟨hk, fun n' q hq => ?_⟩
      by_cases e : n = n'
      · subst e
        rw [look_cons_self] at hq
        injection hq with hq
        subst hq
        exact ⟨m, o', hm, ho', hb, hh, hi⟩
      · rw [look_cons_ne e] at hq
        exact hl n' q hq
    cases o' with
    | siter g s pos =>
      cases o with
      | siter g' s' pos' =>
        obtain ⟨⟨rfl, rfl, rfl⟩, h⟩ := h3
        exact key h rfl (fun h => by cases h) (fun w E x h => h)
      | _ => exact h3.elim
    | mp g es =>
      cases o with
      | mp g' es' =>
        obtain ⟨⟨rfl, rfl⟩, h⟩ := h3
        exact key h rfl (fun h => by cases h) (fun w E x h => h)
      | _ => exact h3.elim
    | dfr g =>
      cases o with
      | dfr g' =>
        obtain ⟨e, h⟩ := h3
        have e : g = g' := e
        subst e
        exact key h rfl (fun h => by cases h) (fun w E x h => h)
      | _ => exact h3.elim
    | loop g st nt sn L =>
      cases o with
      | loop g' st' nt' sn' L' =>
        dsimp only at h3
        cases hb : LSt.eqB st st' && Nat.beq nt nt' with
        | false => rw [hb] at h3; exact h3.elim
        | true =>
          rw [hb] at h3
          rw [Bool.and_eq_true] at hb
          obtain rfl := LSt.eqB_eq hb.1
          obtain rfl := Nat.eq_of_beq_eq_true hb.2
          obtain ⟨⟨rfl, rfl⟩, h⟩ := h3
          have hk : leObK rb rr ro ob r k := (leFrK_k h)
          refine key hk rfl (fun h => by cases h) (fun w E x hx => ?_)
          obtain ⟨rec, g1, g2, g3, g4, g5, g6, g7⟩ := hx
          exact ⟨rec, g1, g2, g3, g4, g5, g6, (leFrK_sound (ok := fun t => t < nt) (tm := fun t => rec.tmps.getD t undef) g7 h).2⟩
      | _ => exact h3.elim
    | hold g T z =>
      cases o with
      | hold g' T' z' =>
        dsimp only at h3
        cases hb : Nat.beq T T' with
        | false => rw [hb] at h3; exact h3.elim
        | true =>
          rw [hb] at h3
          obtain rfl := Nat.eq_of_beq_eq_true hb
          obtain ⟨e, h4⟩ := h3
          have e : g = g' := e
          subst e
          obtain ⟨m', hm', h5⟩ := lookK_sound h4
          cases hb2 : Nat.beq m' m with
          | false => rw [hb2] at h5; exact h5.elim
          | true =>
            rw [hb2] at h5
            obtain rfl := Nat.eq_of_beq_eq_true hb2
            have hk : leObK rb rr ro ob r k := leFrK_k h5
            refine key hk rfl (fun _ => ⟨rfl, hm'⟩) (fun w E x hx => ?_)
            obtain ⟨u, hu, e⟩ := hx
            have := (leFrK_sound (w := w) (E := E) (ok := fun _ => True) (tm := fun _ => u) (fr := [(0, z)]) (fun t v hv => ⟨trivial, by
              by_cases e : 0 = t
              · subst e; rw [look_cons_self] at hv; injection hv with hv; subst hv; exact hu
              · rw [look_cons_ne e] at hv; cases hv⟩) h5).2 0 z' look_cons_self
            exact ⟨u, this.2, e⟩
      | _ => exact h3.elim
    | hst g T nc sn =>
      cases o with
      | hst g' T' nc' sn' =>
        dsimp only at h3
        cases hb : Nat.beq T T' && Nat.beq nc nc' with
        | false => rw [hb] at h3; exact h3.elim
        | true =>
          rw [hb] at h3
          rw [Bool.and_eq_true] at hb
          obtain rfl := Nat.eq_of_beq_eq_true hb.1
          obtain rfl := Nat.eq_of_beq_eq_true hb.2
          obtain ⟨e, h4⟩ := h3
          have e : g = g' := e
          subst e
          obtain ⟨m', hm', h5⟩ := lookK_sound h4
          cases hb2 : Nat.beq m' m with
          | false => rw [hb2] at h5; exact h5.elim
          | true =>
            rw [hb2] at h5
            obtain rfl := Nat.eq_of_beq_eq_true hb2
            have hk : leObK rb rr ro ob r k := leFrK_k h5
            refine key hk rfl (fun _ => ⟨rfl, hm'⟩) (fun w E x hx => ?_)
            obtain ⟨us, h6, h7, h8⟩ := hx
            exact ⟨us, h6, h7, (leFrK_sound (w := w) (E := E) (ok := fun t => t < nc) (tm := fun t => us.toArray.getD t undef) h8 h5).2⟩
      | _ => exact h3.elim
/-- .. with what is no cells. -/
theorem SLe.ofO {C : Cx} {nt : Nat} (rb rr ro : List (Nat × Nat)) {s t : AS} (h1 : renOk rb t.nx = true) (h2 : renOk rr t.nx = true) (h3 : nodupB (ro.map Prod.snd) = true) (h : leFrK rb rr s.fr t.fr (leFrK rb rr s.sv t.sv (leBxK rb s.bx t.bx (leRwK rr s.rw t.rw (leObK rb rr ro s.ob t.ob (leDf s.df t.df True)))))) : SLe C nt s t := by
  refine ⟨fun {B ok0 w0 a w E} hS => ⟨⟨E.ok, fun n => (look rb n).bind E.β, fun n => (look rr n).bind E.ν⟩, ?_⟩⟩
  obtain ⟨h, hfr⟩ := leFrK_sound (ok := fun t => t < nt) hS.fr h
  obtain ⟨h, hsv⟩ := leFrK_sound (ok := fun _ => True) (fun t v hv => ⟨trivial, hS.svs t v hv⟩) h
  obtain ⟨h, hbx⟩ := leBxK_sound h
  obtain ⟨h, hrw⟩ := leRwK_sound h
  obtain ⟨h, hob⟩ := leObK_sound h
  obtain ⟨_, hdf⟩ := leDf_sound h
  have hβ : ∀ n m, look rb n = some m → (look rb n).bind E.β = E.β m := fun n m h => by rw [h]; rfl
  have hν : ∀ n m, look rr n = some m → (look rr n).bind E.ν = E.ν m := fun n m h => by rw [h]; rfl
  refine ⟨hdf ▸ hS.defs, hS.size, hfr, ⟨fun n T ds hn => ?_, fun n e sz xs hn => ?_, ?_⟩, fun n m x y g hn hm hg hg' => ?_, fun n m x y g v hn hm hg hv => ?_, fun n m x y g v v' hn hm hv hv' hg hg' => ?_, fun n hn => ⟨?_, ?_⟩, hS.ok_lt, hS.ok_from, hS.ok_all, hS.hB, hS.below, hS.glob, fun t v hv => (hsv t v hv).2, ⟨fun n m x y hn hm he => ?_, fun n m x y hn hm he => ?_, fun n m x y v hn hm hv he => ?_⟩⟩
  · obtain ⟨m, cs, hm, hcs, hle⟩ := hbx n T ds hn
    obtain ⟨g, us, hg, hB, hok, hgg, hr⟩ := hS.mem.bx m T cs hcs
    exact ⟨g, us, (hβ n m hm).trans hg, hB, hok, hgg, hle.rep hr⟩
  · obtain ⟨m, hm, hx⟩ := hrw n _ hn
    obtain ⟨v, us, hv, ho⟩ := hS.mem.rw m e sz xs hx
    exact ⟨v, us, (hν n m hm).trans hv, ho⟩
  · intro n o hn
    obtain ⟨m, o', hm, ho', hb, hh, hi⟩ := hob n o hn
    obtain ⟨g1, g2, x, g3, g4, g5⟩ := hS.mem.ob m o' ho'
    rw [← hb]
    exact ⟨g1, g2, x, g3, fun hq => (hβ n m (hh hq).2).trans (g4 (hh hq).1), hi w E x g5⟩
  · obtain ⟨T, ds⟩ := x
    obtain ⟨T', ds'⟩ := y
    obtain ⟨k, cs, hk, hcs, _⟩ := hbx n T ds hn
    obtain ⟨k', cs', hk', hcs', _⟩ := hbx m T' ds' hm
    have := hS.bb k k' _ _ g hcs hcs' ((hβ n k hk).symm.trans hg) ((hβ m k' hk').symm.trans hg')
    subst this
    exact renOk_inj h1 hk hk'
  · obtain ⟨T, ds⟩ := x
    obtain ⟨k, cs, hk, hcs, _⟩ := hbx n T ds hn
    obtain ⟨k', hk', hx'⟩ := hrw m _ hm
    exact hS.br k k' _ _ g v hcs hx' ((hβ n k hk).symm.trans hg) ((hν m k' hk').symm.trans hv)
  · obtain ⟨k, hk, hx1⟩ := hrw n _ hn
    obtain ⟨k', hk', hx2⟩ := hrw m _ hm
    have := hS.rr k k' _ _ g v v' hx1 hx2 ((hν n k hk).symm.trans hv) ((hν m k' hk').symm.trans hv') hg hg'
    subst this
    exact renOk_inj h2 hk hk'
  · show (look rb n).bind E.β = none
    cases hl : look rb n with
    | none => rfl
    | some m => have := renOk_lt h1 hl; omega
  · show (look rr n).bind E.ν = none
    cases hl : look rr n with
    | none => rfl
    | some m => have := renOk_lt h2 hl; omega
  · obtain ⟨k, x', hk, hx', e1, _⟩ := hob n x hn
    obtain ⟨k', y', hk', hy', e2, _⟩ := hob m y hm
    have := hS.od.oo k k' x' y' hx' hy' (by rw [e1, e2, he])
    subst this
    exact nodupB_inj h3 (look_mem hk) (look_mem hk')
  · obtain ⟨T, ds⟩ := x
    obtain ⟨k, cs, hk, hcs, _⟩ := hbx n T ds hn
    obtain ⟨k', y', hk', hy', e2, _⟩ := hob m y hm
    exact hS.od.bo k k' _ y' hcs hy' (((hβ n k hk).symm.trans he).trans (by rw [e2]))
  · obtain ⟨k, hk, hx'⟩ := hrw n x hn
    obtain ⟨k', y', hk', hy', e2, _⟩ := hob m y hm
    exact hS.od.ro k k' _ y' v hx' hy' ((hν n k hk).symm.trans hv) (by rw [e2]; exact he)
theorem SLe.of {C : Cx} {nt : Nat} (rb rr : List (Nat × Nat)) {s t : AS} (h1 : renOk rb t.nx = true) (h2 : renOk rr t.nx = true) (h : leFrK rb rr s.fr t.fr (leFrK rb rr s.sv t.sv (leBxK rb s.bx t.bx (leRwK rr s.rw t.rw (leObK rb rr [] s.ob t.ob (leDf s.df t.df True)))))) : SLe C nt s t := SLe.ofO rb rr [] h1 h2 rfl h
theorem SLe.trans {C : Cx} {nt : Nat} {s t u : AS} (h : SLe C nt s t) (h' : SLe C nt t u) : SLe C nt s u := ⟨fun hS => let ⟨_, h1⟩ := h.le hS; h'.le h1⟩
theorem SLe.row {C : Cx} {nt : Nat} {s u : AS} (t e sz : Nat) (h : rowK s t e sz fun s' => SLe C nt s' u) : SLe C nt s u := by
  obtain ⟨s', h, hs⟩ := rowK_sound (C := C) (nt := nt) h
  exact ⟨fun hS => let ⟨_, h1⟩ := hs hS; h.le h1⟩
theorem SLe.shutB {C : Cx} {nt : Nat} {s u : AS} (n : Nat) (h : sealK s n fun s' => SLe C nt s' u) : SLe C nt s u := by
  obtain ⟨s', h, hs⟩ := sealK_sound (C := C) (nt := nt) h
  exact ⟨fun hS => let ⟨_, h1⟩ := hs hS; h.le h1⟩
end Go.Proofs.Ab
end
section
/- Floating point: on integers that fit the significand nothing is rounded. -/
set_option linter.unusedVariables false
set_option linter.unusedSimpArgs false
namespace Go.Proofs.Ab
open Go Ieee

/-- The datum is the integer n. -/
def DVal (d : Datum) (n : Int) : Prop :=
  ∃ s m p, d = .number s m p ∧ ((0 ≤ p ∧ n = signed s m p.toNat) ∨ (p < 0 ∧ signed s m 0 = n * 2 ^ (-p).toNat))
structure Fmt (f : Format) : Prop where
  least : f.leastPlace ≤ -(f.fractionBits : Int)
  room : -f.leastPlace + 2 < 2 ^ f.exponentBits - 1
theorem fmt_double : Fmt double := ⟨by decide, by decide⟩
theorem fmt_single : Fmt single := ⟨by decide, by decide⟩

theorem signed_eq (s : Bool) (m up : Nat) : signed s m up = (if s then -1 else 1) * ((m : Int) * 2 ^ up) := by
  unfold signed
  cases s <;> simp [Nat.shiftLeft_eq, Int.natCast_mul, Int.natCast_pow]
theorem signed_nat (s : Bool) (m up : Nat) : signed s m up = signed s (m * 2 ^ up) 0 := by
  rw [signed_eq, signed_eq]; simp [Int.natCast_mul, Int.natCast_pow]
theorem natAbs_signed (s : Bool) (m : Nat) : (signed s m 0).natAbs = m := by
  rw [signed_eq]; cases s <;> simp

theorem nearest_read {f : Format} (hf : Fmt f) {neg : Bool} {m : Nat} {p : Int} {n : Int} (h : DVal (.number neg m p) n) (hn : n.natAbs < 2 ^ (f.fractionBits + 1)) : DVal (f.read (f.nearest neg m p)) n ∧ f.nearest neg m p < 2 * f.signWeight := by
  obtain ⟨s, m', p', he, h⟩ := h
  injection he with e1 e2 e3
  subst e1; subst e2; subst e3
  have hF1 : 0 < 2 ^ f.fractionBits := Nat.pow_pos (by decide)
  have hE1 : 0 < 2 ^ f.exponentBits := Nat.pow_pos (by decide)
  have hinf : f.infRung < f.signWeight := by
    unfold Format.infRung Format.signWeight Format.binade
    rw [Nat.pow_add]
    exact Nat.mul_lt_mul_of_pos_right (by omega) hF1
  have hrd : ∀ r, r < f.signWeight → f.word neg r / f.signWeight % 2 = (if neg then 1 else 0) ∧ f.word neg r % f.signWeight = r := by
    intro r hr
    have hpos : 0 < f.signWeight := by omega
    unfold Format.word
    cases neg with
    | false => simp [Nat.div_eq_of_lt hr, Nat.mod_eq_of_lt hr]
    | true => simp [Nat.add_div_left _ hpos, Nat.div_eq_of_lt hr, Nat.mod_eq_of_lt hr]
  have hneg : ((if neg then 1 else 0 : Nat) == 1) = neg := by cases neg <;> rfl
  have hwlt : ∀ r, r < f.signWeight → f.word neg r < 2 * f.signWeight := by
    intro r hr
    unfold Format.word
    split <;> omega
  unfold Format.nearest
  by_cases hm : m = 0
  · subst hm
    rw [if_pos rfl]
    have h0 : (0 : Nat) < f.signWeight := by omega
    refine ⟨?_, hwlt 0 h0⟩
    unfold Format.read
    simp only [(hrd 0 h0).1, (hrd 0 h0).2, hneg]
    rw [if_pos (show 0 < f.binade from hF1)]
    have hn0 : n = 0 := by
      rcases h with ⟨_, h⟩ | ⟨hp, h⟩
      · rw [h, signed_eq]; simp
      · rw [signed_eq] at h
        have h2 : (0 : Int) = n * 2 ^ (-p).toNat := by simpa using h
        rcases Int.mul_eq_zero.1 h2.symm with h3 | h3
        · exact h3
        · exact absurd h3 (Int.ne_of_gt (Int.pow_pos (by decide)))
    subst hn0
    refine ⟨neg, 0, f.leastPlace, rfl, ?_⟩
    rcases (by omega : f.leastPlace < 0 ∨ 0 ≤ f.leastPlace) with hl | hl
    · exact .inr ⟨hl, by rw [signed_eq]; simp⟩
    · exact .inl ⟨hl, by rw [signed_eq]; simp⟩
  · rw [if_neg hm]
    -- N, the magnitude
    obtain ⟨N, hN⟩ : ∃ N : Nat, n = signed neg N 0 ∧ ((0 ≤ p ∧ N = m * 2 ^ p.toNat) ∨ (p < 0 ∧ m = N * 2 ^ (-p).toNat)) := by
      rcases h with ⟨hp, h⟩ | ⟨hp, h⟩
      · exact ⟨m * 2 ^ p.toNat, by rw [h, signed_nat], .inl ⟨hp, rfl⟩⟩
      · have habs : m = n.natAbs * 2 ^ (-p).toNat := by
          have := congrArg Int.natAbs h
          rw [natAbs_signed, Int.natAbs_mul, Int.natAbs_pow] at this
          simpa using this
        refine ⟨n.natAbs, ?_, .inr ⟨hp, habs⟩⟩
        have h2 := h
        rw [signed_eq] at h2
        have hk : (0 : Int) < 2 ^ (-p).toNat := Int.pow_pos (by decide)
        rw [habs, Int.natCast_mul, Int.natCast_pow] at h2
        have h3 : ((if neg then -1 else 1) * (n.natAbs : Int)) * 2 ^ (-p).toNat = n * 2 ^ (-p).toNat := by
          rw [← h2]; simp [Int.mul_assoc]
        have h4 := Int.eq_of_mul_eq_mul_right (Int.ne_of_gt hk) h3
        rw [signed_eq]
        simp only [Nat.pow_zero, Int.pow_zero, Int.mul_one]
        exact h4.symm
    obtain ⟨hnN, hN⟩ := hN
    have hNlt : N < 2 ^ (f.fractionBits + 1) := by rw [hnN, natAbs_signed] at hn; exact hn
    have hNpos : N ≠ 0 := by
      intro e
      subst e
      rcases hN with ⟨_, h⟩ | ⟨_, h⟩
      · rcases Nat.mul_eq_zero.1 h.symm with h | h
        · exact hm h
        · exact absurd h (Nat.ne_of_gt (Nat.pow_pos (by decide)))
      · exact hm (by simpa using h)
    have hlogN : N.log2 ≤ f.fractionBits := by
      have := (Nat.log2_lt hNpos).2 hNlt
      omega
    have hlog : p + m.log2 = N.log2 := by
      rcases hN with ⟨hp, h⟩ | ⟨hp, h⟩
      · have e : N.log2 = m.log2 + p.toNat := by
          rw [h]
          refine (Nat.log2_eq_iff (by rw [← h]; exact hNpos)).2 ?_
          have h1 := (Nat.log2_eq_iff hm).1 rfl
          rw [Nat.add_right_comm, Nat.pow_add, Nat.pow_add]
          exact ⟨Nat.mul_le_mul_right _ h1.1, Nat.mul_lt_mul_of_pos_right h1.2 (Nat.pow_pos (by decide))⟩
        omega
      · have e : m.log2 = N.log2 + (-p).toNat := by
          rw [h]
          refine (Nat.log2_eq_iff (by rw [← h]; exact hm)).2 ?_
          have h1 := (Nat.log2_eq_iff hNpos).1 rfl
          rw [Nat.add_right_comm, Nat.pow_add, Nat.pow_add]
          exact ⟨Nat.mul_le_mul_right _ h1.1, Nat.mul_lt_mul_of_pos_right h1.2 (Nat.pow_pos (by decide))⟩
        omega
    obtain ⟨k, hk⟩ : ∃ k : Nat, f.fractionBits = N.log2 + k := ⟨f.fractionBits - N.log2, by omega⟩
    have hleast := hf.least
    have hlast : max (p + m.log2 - f.fractionBits) f.leastPlace = -(k : Int) := by omega
    simp only [hlast]
    have cut0 : ∀ x : Nat, Toward.even.cut neg x 0 = x := by
      intro x
      unfold Toward.cut
      simp [Nat.mod_one]
    have hkept : Toward.even.cut neg (m <<< (p - -(k : Int)).toNat) (-(k : Int) - p).toNat = N * 2 ^ k := by
      rcases (by omega : p < -(k : Int) ∨ -(k : Int) ≤ p) with hp | hp
      · -- cut
        obtain ⟨d, hd⟩ : ∃ d : Nat, -p = k + d := ⟨(-p - k).toNat, by omega⟩
        have e1 : (p - -(k : Int)).toNat = 0 := by omega
        have e2 : (-(k : Int) - p).toNat = d := by omega
        rw [e1, e2]
        rcases hN with ⟨hp2, _⟩ | ⟨hp2, hmN⟩
        · omega
        · have e3 : (-p).toNat = k + d := by omega
          rw [e3, Nat.pow_add, ← Nat.mul_assoc] at hmN
          unfold Toward.cut
          have hmin : min d (m.log2 + 2) = d := by omega
          simp only [Nat.shiftLeft_zero, hmin, Nat.one_shiftLeft]
          have hdp : 0 < 2 ^ d := Nat.pow_pos (by decide)
          rw [hmN, Nat.mul_div_cancel _ hdp, Nat.mul_mod_left]
          simp
      · have e2 : (-(k : Int) - p).toNat = 0 := by omega
        rw [e2, cut0, Nat.shiftLeft_eq]
        rcases hN with ⟨hp2, h⟩ | ⟨hp2, h⟩
        · have e1 : (p - -(k : Int)).toNat = p.toNat + k := by omega
          rw [e1, h, Nat.pow_add, Nat.mul_assoc]
        · obtain ⟨c, hc⟩ : ∃ c : Nat, (k : Int) = -p + c := ⟨(k + p).toNat, by omega⟩
          have e1 : (p - -(k : Int)).toNat = c := by omega
          have e3 : k = (-p).toNat + c := by omega
          rw [e1, h, Nat.mul_assoc, ← Nat.pow_add, ← e3]
    rw [hkept]
    have hb1 := (Nat.log2_eq_iff hNpos).1 rfl
    have hge : f.binade ≤ N * 2 ^ k := by
      unfold Format.binade
      rw [hk, Nat.pow_add]
      exact Nat.mul_le_mul_right _ hb1.1
    have hlt : N * 2 ^ k < 2 * f.binade := by
      unfold Format.binade
      have : 2 * 2 ^ f.fractionBits = 2 ^ (N.log2 + 1) * 2 ^ k := by rw [hk, ← Nat.pow_add, ← Nat.pow_succ']; congr 1; omega
      rw [this]
      exact Nat.mul_lt_mul_of_pos_right hb1.2 (Nat.pow_pos (by decide))
    generalize hK : N * 2 ^ k = K at *
    obtain ⟨L, hL⟩ : ∃ L : Nat, -f.leastPlace = L + k := ⟨(-f.leastPlace - k).toNat, by omega⟩
    have eL : (-(k : Int) - f.leastPlace).toNat = L := by omega
    rw [eL]
    have hroom := hf.room
    have hB : 0 < f.binade := hF1
    have hrung : L * f.binade + K < f.infRung := by
      have h1 : L + 2 < 2 ^ f.exponentBits - 1 + 1 := by
        have : ((2 ^ f.exponentBits : Nat) : Int) = 2 ^ f.exponentBits := by simp [Int.natCast_pow]
        omega
      have h2 : L * f.binade + K < (L + 2) * f.binade := by rw [Nat.add_mul]; omega
      exact Nat.lt_of_lt_of_le h2 (Nat.mul_le_mul_right _ (by omega))
    rw [Nat.min_eq_left (Nat.le_of_lt hrung)]
    have hrs : L * f.binade + K < f.signWeight := Nat.lt_trans hrung hinf
    refine ⟨?_, hwlt _ hrs⟩
    unfold Format.read
    simp only [(hrd _ hrs).1, (hrd _ hrs).2, hneg]
    have hnb : ¬ L * f.binade + K < f.binade := by
      have := Nat.le_add_left K (L * f.binade)
      omega
    rw [if_neg hnb, if_pos hrung]
    obtain ⟨c, hc⟩ : ∃ c, K = f.binade + c := ⟨K - f.binade, by omega⟩
    have hcB : c < f.binade := by omega
    have hdiv : (L * f.binade + K) / f.binade = L + 1 := by
      rw [hc, ← Nat.add_assoc, ← Nat.succ_mul]
      rw [Nat.mul_comm, Nat.mul_add_div hB, Nat.div_eq_of_lt hcB]
    have hmod : (L * f.binade + K) % f.binade = c := by
      rw [hc, ← Nat.add_assoc, ← Nat.succ_mul, Nat.mul_comm, Nat.mul_add_mod, Nat.mod_eq_of_lt hcB]
    rw [hdiv, hmod, ← hc]
    refine ⟨neg, K, f.leastPlace + ((L + 1 - 1 : Nat) : Int), rfl, ?_⟩
    have hp : f.leastPlace + ((L + 1 - 1 : Nat) : Int) = -(k : Int) := by omega
    rw [hp]
    rcases Nat.eq_zero_or_pos k with hk0 | hk0
    · left
      subst hk0
      refine ⟨by simp, ?_⟩
      rw [hnN, ← hK]
      simp
    · right
      refine ⟨by omega, ?_⟩
      have e : (- -(k : Int)).toNat = k := by omega
      rw [e, hnN, ← hK, signed_eq, signed_eq]
      simp [Int.natCast_mul, Int.natCast_pow, Int.mul_assoc]

/-! ### The operations -/
theorem DVal.all {s : Bool} {m : Nat} {p n : Int} (h : DVal (.number s m p) n) : ∀ B : Nat, 0 ≤ p + B → signed s m (p + B).toNat = n * 2 ^ B := by
  obtain ⟨s', m', p', he, h⟩ := h
  injection he with e1 e2 e3
  subst e1; subst e2; subst e3
  intro B hB
  rcases h with ⟨hp, rfl⟩ | ⟨hp, h⟩
  · have e : (p + B).toNat = p.toNat + B := by omega
    rw [e, signed_eq, signed_eq, Int.pow_add]
    simp [Int.mul_assoc]
  · obtain ⟨c, hc⟩ : ∃ c : Nat, (B : Int) = -p + c := ⟨(B + p).toNat, by omega⟩
    have e : (p + B).toNat = c := by omega
    have e2 : B = (-p).toNat + c := by omega
    rw [e, e2, Int.pow_add, ← Int.mul_assoc, ← h, signed_eq, signed_eq]
    simp [Int.mul_assoc]
theorem DVal.one {s : Bool} {m : Nat} {p n : Int} (B : Nat) (hB : 0 ≤ p + B) (h : signed s m (p + B).toNat = n * 2 ^ B) : DVal (.number s m p) n := by
  refine ⟨s, m, p, rfl, ?_⟩
  rcases (by omega : p < 0 ∨ 0 ≤ p) with hp | hp
  · right
    refine ⟨hp, ?_⟩
    obtain ⟨c, hc⟩ : ∃ c : Nat, (B : Int) = -p + c := ⟨(B + p).toNat, by omega⟩
    have e : (p + B).toNat = c := by omega
    have e2 : B = (-p).toNat + c := by omega
    rw [e, e2, Int.pow_add, ← Int.mul_assoc, signed_eq] at h
    rw [signed_eq]
    have hk : (0 : Int) < 2 ^ c := Int.pow_pos (by decide)
    refine Int.eq_of_mul_eq_mul_right (Int.ne_of_gt hk) ?_
    rw [← h]
    simp [Int.mul_assoc]
  · left
    refine ⟨hp, ?_⟩
    have e : (p + B).toNat = p.toNat + B := by omega
    rw [e, signed_eq, Int.pow_add] at h
    rw [signed_eq]
    have hk : (0 : Int) < 2 ^ B := Int.pow_pos (by decide)
    refine Int.eq_of_mul_eq_mul_right (Int.ne_of_gt hk) ?_
    rw [← h]
    simp [Int.mul_assoc]
theorem DVal.number {d : Datum} {n : Int} (h : DVal d n) : ∃ s m p, d = .number s m p := let ⟨s, m, p, e, _⟩ := h; ⟨s, m, p, e⟩
theorem DVal.ofInt (n : Int) : DVal (.number (n < 0) n.natAbs 0) n := by
  refine ⟨_, _, _, rfl, .inl ⟨by decide, ?_⟩⟩
  rw [signed_eq]
  by_cases h : n < 0 <;> simp [h] <;> omega
theorem DVal.opposite {d : Datum} {n : Int} (h : DVal d n) : DVal d.opposite (-n) := by
  obtain ⟨s, m, p, rfl⟩ := h.number
  have hB := h.all (-p).toNat (by omega)
  refine DVal.one (-p).toNat (by omega) ?_
  rw [signed_eq] at hB ⊢
  rw [Int.neg_mul, ← hB]
  cases s <;> simp
theorem signed_int (total : Int) (b : Bool) (up : Nat) : signed (if total = 0 then b else decide (total < 0)) total.natAbs up = total * 2 ^ up := by
  rw [signed_eq]
  by_cases h0 : total = 0
  · simp [h0]
  · by_cases h : total < 0
    · have : (total.natAbs : Int) = -total := by omega
      simp [h0, h, this, Int.neg_mul, Int.neg_neg]
    · have : (total.natAbs : Int) = total := by omega
      simp [h0, h, this]
theorem DVal.sum {d e : Datum} {a b : Int} (ha : DVal d a) (hb : DVal e b) : ∃ r, d.sum e = some r ∧ DVal r (a + b) := by
  obtain ⟨s, m, i, rfl⟩ := ha.number
  obtain ⟨t, n, j, rfl⟩ := hb.number
  refine ⟨_, rfl, ?_⟩
  have hBA := ha.all (-(min i j)).toNat (by omega)
  have hBB := hb.all (-(min i j)).toNat (by omega)
  refine DVal.one (-(min i j)).toNat (by omega) ?_
  rw [signed_int]
  generalize hB : (-(min i j)).toNat = B at *
  have e1 : (i + (B : Int)).toNat = (i - min i j).toNat + (min i j + (B : Int)).toNat := by omega
  have e2 : (j + (B : Int)).toNat = (j - min i j).toNat + (min i j + (B : Int)).toNat := by omega
  rw [e1, signed_eq, Int.pow_add] at hBA
  rw [e2, signed_eq, Int.pow_add] at hBB
  rw [show (a + b) * 2 ^ B = a * 2 ^ B + b * 2 ^ B from Int.add_mul _ _ _, ← hBA, ← hBB, Int.add_mul, signed_eq, signed_eq]
  simp [Int.mul_assoc]
theorem DVal.product {d e : Datum} {a b : Int} (ha : DVal d a) (hb : DVal e b) : ∃ r, d.product e = some r ∧ DVal r (a * b) := by
  obtain ⟨s, m, i, rfl⟩ := ha.number
  obtain ⟨t, n, j, rfl⟩ := hb.number
  refine ⟨_, rfl, ?_⟩
  have hBA := ha.all (-i).toNat (by omega)
  have hBB := hb.all (-j).toNat (by omega)
  refine DVal.one ((-i).toNat + (-j).toNat) (by omega) ?_
  have e1 : (i + j + ((-i).toNat + (-j).toNat : Nat)).toNat = (i + ((-i).toNat : Int)).toNat + (j + ((-j).toNat : Int)).toNat := by omega
  rw [e1, Int.pow_add]
  have : a * b * (2 ^ (-i).toNat * 2 ^ (-j).toNat) = (a * 2 ^ (-i).toNat) * (b * 2 ^ (-j).toNat) := by
    simp only [Int.mul_assoc, Int.mul_left_comm]
  rw [this, ← hBA, ← hBB]
  rw [signed_eq, signed_eq, signed_eq, Int.pow_add]
  cases s <;> cases t <;> simp [Int.mul_assoc, Int.mul_left_comm, Int.mul_comm, Int.neg_mul, Int.mul_neg, Int.neg_neg]
theorem DVal.toInt {d : Datum} {n : Int} (h : DVal d n) : d.toInt .zero = some n := by
  obtain ⟨s, m, p, rfl, h⟩ := h
  unfold Datum.toInt Datum.integral
  simp only
  congr 1
  have cut0 : ∀ x : Nat, Toward.zero.cut s x 0 = x := by
    intro x
    unfold Toward.cut
    simp [Nat.mod_one]
  rcases h with ⟨hp, rfl⟩ | ⟨hp, h⟩
  · have e : (-p).toNat = 0 := by omega
    rw [e, cut0, Nat.shiftLeft_eq, ← signed_nat]
  · have e : p.toNat = 0 := by omega
    rw [e]
    have hm : m = n.natAbs * 2 ^ (-p).toNat := by
      have := congrArg Int.natAbs h
      rw [natAbs_signed, Int.natAbs_mul, Int.natAbs_pow] at this
      simpa using this
    have hk : (0 : Int) < 2 ^ (-p).toNat := Int.pow_pos (by decide)
    have hkn : 0 < 2 ^ (-p).toNat := Nat.pow_pos (by decide)
    have hcut : Toward.zero.cut s (m <<< 0) (-p).toNat = n.natAbs := by
      unfold Toward.cut
      simp only [Nat.shiftLeft_zero, Bool.toNat_false, Nat.add_zero, Nat.one_shiftLeft]
      by_cases h0 : n.natAbs = 0
      · rw [h0] at hm; rw [hm, h0]; simp
      · have h1 : m.log2 = n.natAbs.log2 + (-p).toNat := by
          refine (Nat.log2_eq_iff (by rw [hm]; exact Nat.ne_of_gt (Nat.mul_pos (by omega) hkn))).2 ?_
          have h1 := (Nat.log2_eq_iff h0).1 rfl
          rw [hm, Nat.add_right_comm, Nat.pow_add, Nat.pow_add]
          exact ⟨Nat.mul_le_mul_right _ h1.1, Nat.mul_lt_mul_of_pos_right h1.2 hkn⟩
        rw [Nat.min_eq_left (by omega), hm, Nat.mul_div_cancel _ hkn]
    rw [hcut]
    rw [signed_eq] at h ⊢
    refine Int.eq_of_mul_eq_mul_right (Int.ne_of_gt hk) ?_
    rw [← h, hm, Int.natCast_mul, Int.natCast_pow]
    simp [Int.mul_assoc]

/-! ### The words of a kind -/
def FInt (k : FloatKind) (x : Nat) (n : Int) : Prop := DVal (k.decode x) n
theorem FInt.ofInt {n : Int} (h : n.natAbs < 2 ^ 53) : FInt .f64 (floatOfInt .f64 n) n := (nearest_read fmt_double (DVal.ofInt n) h).1
theorem FInt.write {d : Datum} {n : Int} (h : DVal d n) (hn : n.natAbs < 2 ^ 53) : DVal (double.read (double.write d)) n := by
  obtain ⟨s, m, p, rfl⟩ := h.number
  exact (nearest_read fmt_double h hn).1
theorem FInt.mul {x y : Nat} {a b : Int} (hx : FInt .f64 x a) (hy : FInt .f64 y b) (h : (a * b).natAbs < 2 ^ 53) : ∃ r, floatBits .mul .f64 x y = some r ∧ FInt .f64 r (a * b) := by
  obtain ⟨r, h1, h2⟩ := DVal.product hx hy
  refine ⟨double.write r, ?_, FInt.write h2 h⟩
  have h1 : (double.read x).product (double.read y) = some r := h1
  show double.mul x y = some _
  unfold Format.mul
  rw [h1]
  rfl
theorem FInt.add {x y : Nat} {a b : Int} (hx : FInt .f64 x a) (hy : FInt .f64 y b) (h : (a + b).natAbs < 2 ^ 53) : ∃ r, floatBits .add .f64 x y = some r ∧ FInt .f64 r (a + b) := by
  obtain ⟨r, h1, h2⟩ := DVal.sum hx hy
  refine ⟨double.write r, ?_, FInt.write h2 h⟩
  have h1 : (double.read x).sum (double.read y) = some r := h1
  show double.add x y = some _
  unfold Format.add
  rw [h1]
  rfl
theorem FInt.sub {x y : Nat} {a b : Int} (hx : FInt .f64 x a) (hy : FInt .f64 y b) (h : (a - b).natAbs < 2 ^ 53) : ∃ r, floatBits .sub .f64 x y = some r ∧ FInt .f64 r (a - b) := by
  obtain ⟨r, h1, h2⟩ := DVal.sum hx (DVal.opposite hy)
  rw [← Int.sub_eq_add_neg] at h2
  refine ⟨double.write r, ?_, FInt.write h2 h⟩
  have h1 : (double.read x).sum (double.read y).opposite = some r := h1
  show double.sub x y = some _
  unfold Format.sub
  rw [h1]
  rfl
theorem FInt.int {k : FloatKind} {x : Nat} {n : Int} (h : FInt k x n) (h1 : -9223372036854775808 ≤ n) (h2 : n ≤ 9223372036854775807) : floatToIntVal k x .i64 = some n := by
  unfold floatToIntVal
  rw [show (k.decode x).toInt .zero = some n from DVal.toInt h]
  simp only
  exact if_pos ⟨h1, h2⟩
/-- The product of two complex integers. -/
theorem cMul_int {a b c d : Nat} {x y u v : Int} (ha : FInt .f64 a x) (hb : FInt .f64 b y) (hc : FInt .f64 c u) (hd : FInt .f64 d v) (h1 : (x * u).natAbs < 2 ^ 52) (h2 : (y * v).natAbs < 2 ^ 52) (h3 : (x * v).natAbs < 2 ^ 52) (h4 : (y * u).natAbs < 2 ^ 52) :
    ∃ re im, cMulBits a b c d = some (re, im) ∧ FInt .f64 re (x * u - y * v) ∧ FInt .f64 im (x * v + y * u) := by
  obtain ⟨ac, e1, f1⟩ := ha.mul hc (by omega)
  obtain ⟨bd, e2, f2⟩ := hb.mul hd (by omega)
  obtain ⟨re, e3, f3⟩ := f1.sub f2 (by omega)
  obtain ⟨ad, e4, f4⟩ := ha.mul hd (by omega)
  obtain ⟨bc, e5, f5⟩ := hb.mul hc (by omega)
  obtain ⟨im, e6, f6⟩ := f4.add f5 (by omega)
  exact ⟨re, im, by simp [cMulBits, e1, e2, e3, e4, e5, e6], f3, f6⟩
end Go.Proofs.Ab
end
section
/- The small functions of the program's chapter. -/
set_option maxRecDepth 100000
set_option linter.unusedVariables false
set_option linter.unusedSimpArgs false
namespace Go.Proofs.Ab.Tone
open Go Go.RowKit Go.Proofs.Ab
noncomputable def C : Cx := { P := Tryz.prog, tab := tab, glob := [(0, [I 0, I 0])] }
theorem good : C.Good := ⟨tab_good, by kernel_rfl⟩

theorem wl0 : wrapK IntKind.i64 (0 + 1) = 1 := by kernel_rfl
theorem wl1 : wrapK IntKind.i64 (1 + 1) = 2 := by kernel_rfl
theorem wl2 : wrapK IntKind.i64 (2 + 1) = 3 := by kernel_rfl
theorem wl3 : wrapK IntKind.i64 (3 + 1) = 4 := by kernel_rfl
theorem wl4 : wrapK IntKind.i64 (1 - 0) = 1 := by kernel_rfl
theorem wl5 : wrapK IntKind.i64 (1 - 1) = 0 := by kernel_rfl
theorem when_pure (b : Bool) (n : Int) : APure C 100 [Bo b, I n] (I (if b then n else 0)) := by
  refine APure.of_body good [] (fn := Tryz.f100) (by kernel_rfl) (by kernel_rfl) rfl rfl (by kernel_rfl) rfl (by kernel_rfl) ?_
  cases b
  · conv => whnf
    exact ⟨PLe.refl _⟩
  · conv => whnf
    exact ⟨PLe.refl _⟩
def within (n least most : Int) : Int := if n < least ∨ most < n then 3 else 0
theorem within_pure (n least most : Int) : APure C 103 [I n, I least, I most] (I (within n least most)) := by
  refine APure.of_body good [] (fn := Tryz.f103) (by kernel_rfl) (by kernel_rfl) rfl rfl (by kernel_rfl) rfl (by kernel_rfl) ?_
  conv => whnf
  repeat' (first
    | (refine codeK_sound good (mu := []) ?_; conv => whnf)
    | ((first | rw [wl0] | rw [wl1] | rw [wl2] | rw [wl3] | rw [wl4] | rw [wl5]); conv => whnf)
    | (refine SBool.mk (fun _ => ?_) (fun h => absurd (of_decide_eq_true rfl) h); conv => whnf)
    | (refine SBool.mk (fun h => absurd h (of_decide_eq_false rfl)) (fun _ => ?_); conv => whnf)
    | (refine SBool.mk (fun h => ?_) (fun h => ?_) <;> conv => whnf)
    | (refine SEx.mk _ (by first | exact when_pure _ _) ?_; conv => whnf)
    | (refine SEx.mk _ (by first | exact rfl | exact ⟨of_decide_eq_true rfl, rfl⟩) ?_; conv => whnf)
    | (refine SAll.mk (fun _ => ?_); conv => whnf)
    | (refine SAnd.mk ⟨by intro c hc; simp at hc; first | (subst hc; rfl) | ((repeat' (rcases hc with rfl | hc)) <;> first | rfl | (subst hc; rfl)), by (simp; first | done | omega), by (simp; first | done | omega)⟩ ?_; conv => whnf)
    | (refine SAnd.mk (by first | exact rfl | kernel_rfl | omega | decide | exact when_pure _ _) ?_; conv => whnf)
    | fail)
  all_goals exact ⟨PLe.of_eq (by simp [within, *])⟩
def firstOf : List Int → Int
  | [] => 0
  | x :: xs => if x = 0 then firstOf xs else x
abbrev ints (xs : List Int) : PV := .seq 1 (xs.map fun x => [I x])
theorem wrap_id {n : Int} (h1 : -9223372036854775808 ≤ n) (h2 : n ≤ 9223372036854775807) : wrap64 n = n := by
  unfold wrap64
  omega
theorem firstOf_drop {xs : List Int} {k : Nat} (h : k < xs.length) : firstOf (xs.drop k) = if xs[k] = 0 then firstOf (xs.drop (k + 1)) else xs[k] := by
  rw [List.drop_eq_getElem_cons h]
  rfl
theorem first_pure (xs : List Int) (hl : xs.length ≤ 4611686018427387904) : APure C 98 [ints xs] (I (firstOf xs)) := by
  refine APure.of_body good [] (fn := Tryz.f98) (by kernel_rfl) (by kernel_rfl) rfl rfl (by kernel_rfl) rfl (by kernel_rfl) ?_
  conv => whnf
  refine ⟨AWp.loop (ι := { k : Nat // k ≤ xs.length ∧ firstOf xs = firstOf (xs.drop k) }) (fun k => ⟨[(7, .p (I k.1)), (6, .p (I xs.length)), (5, .p (ints xs))], [], [], 0, [], [], []⟩) (fun k => xs.length - k.1) ⟨0, by simp⟩ ?_ ?_⟩
  · refine SLe.of [] [] rfl rfl ?_
    conv => whnf
    refine SAnd.mk (PLe.refl _) ?_
    conv => whnf
    refine SAnd.mk (PLe.of_eq (by simp)) ?_
    conv => whnf
    refine SAnd.mk (PLe.refl _) ?_
    exact True.intro
  · rintro ⟨k, hk, he⟩
    refine codeK_sound good (mu := []) ?_
    conv => whnf
    refine SBool.mk (fun h => ?_) (fun h => ?_)
    · conv => whnf
      have hkl : k < xs.length := by simpa using h
      refine SEx.mk [I xs[k]] (by simp [hkl]) ?_
      conv => whnf
      refine SBool.mk (fun h0 => ?_) (fun h0 => ?_)
      · conv => whnf
        refine ⟨⟨k + 1, by omega, by rw [he, firstOf_drop hkl, if_pos h0]⟩, by simp only; omega, ?_⟩
        refine SLe.of [] [] rfl rfl ?_
        conv => whnf
        refine SAnd.mk (PLe.of_eq (by simp only [wrapK]; rw [wrap_id (by omega) (by omega)]; simp)) ?_
        conv => whnf
        refine SAnd.mk (PLe.refl _) ?_
        conv => whnf
        refine SAnd.mk (PLe.refl _) ?_
        exact True.intro
      · conv => whnf
        exact ⟨PLe.of_eq (by rw [he, firstOf_drop hkl, if_neg h0])⟩
    · conv => whnf
      have : k = xs.length := by simp at h; omega
      exact ⟨PLe.of_eq (by rw [he, this]; simp [firstOf])⟩
end Go.Proofs.Ab.Tone
end
section
/- More small functions: complex integers. -/
set_option maxRecDepth 100000
set_option linter.unusedVariables false
set_option linter.unusedSimpArgs false
namespace Go.Proofs.Ab.Tone
open Go Go.RowKit Go.Proofs.Ab
theorem first2_pure (a b : Int) : APure C 98 [.seq 1 [[I a], [I b]]] (I (firstOf [a, b])) := first_pure [a, b] (by simp)
theorem first3_pure (a b c : Int) : APure C 98 [.seq 1 [[I a], [I b], [I c]]] (I (firstOf [a, b, c])) := first_pure [a, b, c] (by simp)
theorem first4_pure (a b c d : Int) : APure C 98 [.seq 1 [[I a], [I b], [I c], [I d]]] (I (firstOf [a, b, c, d])) := first_pure [a, b, c, d] (by simp)
theorem first5_pure (a b c d e : Int) : APure C 98 [.seq 1 [[I a], [I b], [I c], [I d], [I e]]] (I (firstOf [a, b, c, d, e])) := first_pure [a, b, c, d, e] (by simp)
theorem first6_pure (a b c d e f : Int) : APure C 98 [.seq 1 [[I a], [I b], [I c], [I d], [I e], [I f]]] (I (firstOf [a, b, c, d, e, f])) := first_pure [a, b, c, d, e, f] (by simp)

def sizedE (n most : Int) : Int := if n = 0 then 12 else if most < n then 5 else 0
theorem sized_pure (n most : Int) : APure C 151 [I n, I most] (I (sizedE n most)) := by
  refine APure.of_body good [] (fn := Tryz.f151) (by kernel_rfl) (by kernel_rfl) rfl rfl (by kernel_rfl) rfl (by kernel_rfl) ?_
  conv => whnf
  repeat' (first
    | (refine codeK_sound good (mu := []) ?_; conv => whnf)
    | ((first | rw [wl0] | rw [wl1] | rw [wl2] | rw [wl3] | rw [wl4] | rw [wl5]); conv => whnf)
    | (refine SBool.mk (fun _ => ?_) (fun h => absurd (of_decide_eq_true rfl) h); conv => whnf)
    | (refine SBool.mk (fun h => absurd h (of_decide_eq_false rfl)) (fun _ => ?_); conv => whnf)
    | (refine SBool.mk (fun h => ?_) (fun h => ?_) <;> conv => whnf)
    | (refine SEx.mk _ (by first | exact when_pure _ _ | exact first2_pure _ _) ?_; conv => whnf)
    | (refine SEx.mk _ (by first | exact rfl | exact ⟨of_decide_eq_true rfl, rfl⟩) ?_; conv => whnf)
    | (refine SAll.mk (fun _ => ?_); conv => whnf)
    | (refine SAnd.mk ⟨by intro c hc; simp at hc; first | (subst hc; rfl) | ((repeat' (rcases hc with rfl | hc)) <;> first | rfl | (subst hc; rfl)), by (simp; first | done | omega), by (simp; first | done | omega)⟩ ?_; conv => whnf)
    | (refine SAnd.mk (by first | exact rfl | kernel_rfl | omega | decide | exact when_pure _ _ | exact first2_pure _ _) ?_; conv => whnf)
    | fail)
  all_goals exact ⟨PLe.of_eq (by simp [sizedE, firstOf, *])⟩
def partE (re im most : Int) : Int := firstOf [within re (wrap64 (0 - most)) most, within im (wrap64 (0 - most)) most]
theorem part_pure (re im most : Int) : APure C 107 [.agg [I re, I im], I most] (I (partE re im most)) := by
  refine APure.of_body good [] (fn := Tryz.f107) (by kernel_rfl) (by kernel_rfl) rfl rfl (by kernel_rfl) rfl (by kernel_rfl) ?_
  conv => whnf
  repeat' (first
    | (refine codeK_sound good (mu := []) ?_; conv => whnf)
    | ((first | rw [wl0] | rw [wl1] | rw [wl2] | rw [wl3] | rw [wl4] | rw [wl5]); conv => whnf)
    | (refine SBool.mk (fun _ => ?_) (fun h => absurd (of_decide_eq_true rfl) h); conv => whnf)
    | (refine SBool.mk (fun h => absurd h (of_decide_eq_false rfl)) (fun _ => ?_); conv => whnf)
    | (refine SBool.mk (fun h => ?_) (fun h => ?_) <;> conv => whnf)
    | (refine SEx.mk _ (by first | exact within_pure _ _ _ | exact first2_pure _ _) ?_; conv => whnf)
    | (refine SEx.mk _ (by first | exact rfl | exact ⟨of_decide_eq_true rfl, rfl⟩) ?_; conv => whnf)
    | (refine SAll.mk (fun _ => ?_); conv => whnf)
    | (refine SAnd.mk ⟨by intro c hc; simp at hc; first | (subst hc; rfl) | ((repeat' (rcases hc with rfl | hc)) <;> first | rfl | (subst hc; rfl)), by (simp; first | done | omega), by (simp; first | done | omega)⟩ ?_; conv => whnf)
    | (refine SAnd.mk (by first | exact rfl | kernel_rfl | omega | decide | exact within_pure _ _ _ | exact first2_pure _ _) ?_; conv => whnf)
    | fail)
  all_goals exact ⟨PLe.refl _⟩
theorem plus_pure (a b c d : Int) : APure C 102 [.agg [I a, I b], .agg [I c, I d]] (.agg [I (wrap64 (a + c)), I (wrap64 (b + d))]) := by
  refine APure.of_body good [] (fn := Tryz.f102) (by kernel_rfl) (by kernel_rfl) rfl rfl (by kernel_rfl) rfl (by kernel_rfl) ?_
  conv => whnf
  exact ⟨PLe.refl _⟩
theorem minus_pure (a b c d : Int) : APure C 166 [.agg [I a, I b], .agg [I c, I d]] (.agg [I (wrap64 (a - c)), I (wrap64 (b - d))]) := by
  refine APure.of_body good [] (fn := Tryz.f166) (by kernel_rfl) (by kernel_rfl) rfl rfl (by kernel_rfl) rfl (by kernel_rfl) ?_
  conv => whnf
  exact ⟨PLe.refl _⟩
theorem conjugate_pure (a b : Int) : APure C 157 [.agg [I a, I b]] (.agg [I a, I (wrap64 (0 - b))]) := by
  refine APure.of_body good [] (fn := Tryz.f157) (by kernel_rfl) (by kernel_rfl) rfl rfl (by kernel_rfl) rfl (by kernel_rfl) ?_
  conv => whnf
  exact ⟨PLe.refl _⟩
theorem square_pure (a b : Int) : APure C 88 [.agg [I a, I b]] (I (wrap64 (wrap64 (a * a) + wrap64 (b * b)))) := by
  refine APure.of_body good [] (fn := Tryz.f88) (by kernel_rfl) (by kernel_rfl) rfl rfl (by kernel_rfl) rfl (by kernel_rfl) ?_
  conv => whnf
  exact ⟨PLe.refl _⟩
theorem number_pure (a b : Int) : APure C 161 [.agg [I a, I b]] (.v (.complex .f64 (floatOfInt .f64 a) (floatOfInt .f64 b))) := by
  refine APure.of_body good [] (fn := Tryz.f161) (by kernel_rfl) (by kernel_rfl) rfl rfl (by kernel_rfl) rfl (by kernel_rfl) ?_
  conv => whnf
  refine SEx.mk _ (fun w => run_convert_int_float w 3 227 .i64 .f64 a (by kernel_rfl) (by kernel_rfl)) ?_
  conv => whnf
  refine SEx.mk _ (fun w => run_convert_int_float w 3 227 .i64 .f64 b (by kernel_rfl) (by kernel_rfl)) ?_
  conv => whnf
  all_goals exact ⟨PLe.refl _⟩
theorem numbers_pure (a b c d e f : Int) : APure C 158 [.agg [I a, I b, I c, I d, I e, I f]] (.agg [I a, I b, I c, I d, I e, I f]) := by
  refine APure.of_body good [] (fn := Tryz.f158) (by kernel_rfl) (by kernel_rfl) rfl rfl (by kernel_rfl) rfl (by kernel_rfl) ?_
  conv => whnf
  exact ⟨PLe.refl _⟩
end Go.Proofs.Ab.Tone
end
section
/- Products of complex integers, by floats. -/
set_option maxRecDepth 100000
set_option linter.unusedVariables false
set_option linter.unusedSimpArgs false
namespace Go.Proofs.Ab.Tone
open Go Go.RowKit Go.Proofs.Ab
theorem mul_lt {a b : Int} {m n k : Nat} (h1 : a.natAbs ≤ m) (h2 : b.natAbs ≤ n) (h : m * n < k) : (a * b).natAbs < k := by
  rw [Int.natAbs_mul]
  exact Nat.lt_of_le_of_lt (Nat.mul_le_mul h1 h2) h
theorem times_pure (a b c d : Int) (h1 : a.natAbs ≤ 4000000) (h2 : b.natAbs ≤ 4000000) (h3 : c.natAbs ≤ 1000000) (h4 : d.natAbs ≤ 1000000) :
    APure C 105 [.agg [I a, I b], .agg [I c, I d]] (.agg [I (a * c - b * d), I (a * d + b * c)]) := by
  have e1 := mul_lt h1 h3 (k := 2 ^ 52) (by decide)
  have e2 := mul_lt h2 h4 (k := 2 ^ 52) (by decide)
  have e3 := mul_lt h1 h4 (k := 2 ^ 52) (by decide)
  have e4 := mul_lt h2 h3 (k := 2 ^ 52) (by decide)
  obtain ⟨re, im, hm, hre, him⟩ := cMul_int (FInt.ofInt (n := a) (by omega)) (FInt.ofInt (n := b) (by omega)) (FInt.ofInt (n := c) (by omega)) (FInt.ofInt (n := d) (by omega)) e1 e2 e3 e4
  have i1 := hre.int (by omega) (by omega)
  have i2 := him.int (by omega) (by omega)
  refine APure.of_body good [] (fn := Tryz.f105) (by kernel_rfl) (by kernel_rfl) rfl rfl (by kernel_rfl) rfl (by kernel_rfl) ?_
  conv => whnf
  repeat' (first
    | (refine codeK_sound good (mu := []) ?_; conv => whnf)
    | ((first | rw [wl0] | rw [wl1] | rw [wl2] | rw [wl3] | rw [wl4] | rw [wl5]); conv => whnf)
    | (refine SBool.mk (fun _ => ?_) (fun h => absurd (of_decide_eq_true rfl) h); conv => whnf)
    | (refine SBool.mk (fun h => absurd h (of_decide_eq_false rfl)) (fun _ => ?_); conv => whnf)
    | (refine SBool.mk (fun h => ?_) (fun h => ?_) <;> conv => whnf)
    | (refine SEx.mk _ (by first | exact number_pure _ _) ?_; conv => whnf)
    | (refine SEx.mk _ (by first | exact rfl | exact ⟨of_decide_eq_true rfl, rfl⟩) ?_; conv => whnf)
    | (refine SAll.mk (fun _ => ?_); conv => whnf)
    | (refine SAnd.mk ⟨by intro c hc; simp at hc; first | (subst hc; rfl) | ((repeat' (rcases hc with rfl | hc)) <;> first | rfl | (subst hc; rfl)), by (simp; first | done | omega), by (simp; first | done | omega)⟩ ?_; conv => whnf)
    | (refine SAnd.mk (by first | exact rfl | kernel_rfl | omega | decide | exact number_pure _ _) ?_; conv => whnf)
    | fail)
  refine SEx.mk _ (fun w => run_complex_mul w 225 _ _ _ _ re im hm) ?_
  conv => whnf
  refine SEx.mk _ (fun w => run_convert_float_int w 227 3 .f64 .i64 _ _ (by kernel_rfl) (by kernel_rfl) i1) ?_
  conv => whnf
  refine SEx.mk _ (fun w => run_convert_float_int w 227 3 .f64 .i64 _ _ (by kernel_rfl) (by kernel_rfl) i2) ?_
  conv => whnf
  exact ⟨PLe.refl _⟩
end Go.Proofs.Ab.Tone
end
section
/- What is made of each element of a list. -/
set_option maxRecDepth 100000
set_option linter.unusedVariables false
set_option linter.unusedSimpArgs false
namespace Go.Proofs.Ab.Tone
open Go Go.RowKit Go.Proofs.Ab
structure G where
  re : Int
  im : Int
  deriving DecidableEq
abbrev gc (a : G) : List PV := [I a.re, I a.im]
structure Sg where
  c : G
  l : G
  h : G
  deriving DecidableEq
abbrev sc (s : Sg) : List PV := [I s.c.re, I s.c.im, I s.l.re, I s.l.im, I s.h.re, I s.h.im]
theorem take_map_succ {α β : Type} {xs : List α} {k : Nat} (h : k < xs.length) (f : α → β) : (xs.take (k + 1)).map f = (xs.take k).map f ++ [f xs[k]] := by
  rw [List.take_succ_eq_append_getElem h, List.map_append]
  rfl
theorem mapped159_pure (f : G → Int) (g : FuncId) (caps : List PV) (xs : List G) (hl : xs.length ≤ 1000000) (h : ∀ x ∈ xs, APure C g (.agg (gc x) :: caps) (I (f x))) :
    APure C 159 [.seq 2 (xs.map gc), .fn g caps] (.seq 1 (xs.map fun x => [I (f x)])) := by
  refine APure.of_body good [] (fn := Tryz.f159) (by kernel_rfl) (by kernel_rfl) rfl rfl (by kernel_rfl) rfl (by kernel_rfl) ?_
  conv => whnf
  refine ⟨AWp.loop (ι := { k : Nat // k ≤ xs.length }) (fun k => ⟨[(10, .p (I k.1)), (9, .p (I xs.length)), (8, .p (.seq 2 (xs.map gc))), (5, .own 0), (1, .p (.fn g caps))], [], [(0, (29, 1, (xs.take k.1).map fun x => [I (f x)]))], 1, [], [], []⟩) (fun k => xs.length - k.1) ⟨0, by simp⟩ ?_ ?_⟩
  · refine SLe.row 5 29 1 ?_
    conv => whnf
    refine SLe.of [] [(0, 0)] rfl rfl ?_
    conv => whnf
    refine SAnd.mk (PLe.refl _) ?_
    conv => whnf
    refine SAnd.mk (PLe.of_eq (by simp)) ?_
    conv => whnf
    refine SAnd.mk (PLe.refl _) ?_
    conv => whnf
    refine SAnd.mk (PLe.refl _) ?_
    conv => whnf
    refine SAnd.mk rfl ?_
    exact True.intro
  · rintro ⟨k, hk⟩
    refine codeK_sound good (mu := []) ?_
    conv => whnf
    refine SBool.mk (fun hc => ?_) (fun hc => ?_)
    · conv => whnf
      have hkl : k < xs.length := by simpa using hc
      refine SEx.mk (gc xs[k]) (by simp [hkl]) ?_
      conv => whnf
      refine SEx.mk _ (h xs[k] (List.getElem_mem hkl)) ?_
      conv => whnf
      refine SAnd.mk ⟨by intro c hc; simp at hc; subst hc; rfl, by simp; omega, by simp; omega⟩ ?_
      conv => whnf
      refine ⟨⟨k + 1, by omega⟩, by simp only; omega, ?_⟩
      refine SLe.of [] [(0, 2)] rfl rfl ?_
      conv => whnf
      refine SAnd.mk (PLe.of_eq (by simp only [wrapK]; rw [wrap_id (by omega) (by omega)]; simp)) ?_
      conv => whnf
      refine SAnd.mk (PLe.refl _) ?_
      conv => whnf
      refine SAnd.mk (PLe.refl _) ?_
      conv => whnf
      refine SAnd.mk (PLe.refl _) ?_
      conv => whnf
      refine SAnd.mk (take_map_succ hkl _).symm ?_
      exact True.intro
    · conv => whnf
      have : k = xs.length := by simp at hc; omega
      subst this
      exact ⟨PLe.of_eq (by simp)⟩
theorem mapped164_pure (f : Sg → Int) (g : FuncId) (caps : List PV) (xs : List Sg) (hl : xs.length ≤ 1000000) (h : ∀ x ∈ xs, APure C g (.agg (sc x) :: caps) (I (f x))) :
    APure C 164 [.seq 6 (xs.map sc), .fn g caps] (.seq 1 (xs.map fun x => [I (f x)])) := by
  refine APure.of_body good [] (fn := Tryz.f164) (by kernel_rfl) (by kernel_rfl) rfl rfl (by kernel_rfl) rfl (by kernel_rfl) ?_
  conv => whnf
  refine ⟨AWp.loop (ι := { k : Nat // k ≤ xs.length }) (fun k => ⟨[(10, .p (I k.1)), (9, .p (I xs.length)), (8, .p (.seq 6 (xs.map sc))), (5, .own 0), (1, .p (.fn g caps))], [], [(0, (29, 1, (xs.take k.1).map fun x => [I (f x)]))], 1, [], [], []⟩) (fun k => xs.length - k.1) ⟨0, by simp⟩ ?_ ?_⟩
  · refine SLe.row 5 29 1 ?_
    conv => whnf
    refine SLe.of [] [(0, 0)] rfl rfl ?_
    conv => whnf
    refine SAnd.mk (PLe.refl _) ?_
    conv => whnf
    refine SAnd.mk (PLe.of_eq (by simp)) ?_
    conv => whnf
    refine SAnd.mk (PLe.refl _) ?_
    conv => whnf
    refine SAnd.mk (PLe.refl _) ?_
    conv => whnf
    refine SAnd.mk rfl ?_
    exact True.intro
  · rintro ⟨k, hk⟩
    refine codeK_sound good (mu := []) ?_
    conv => whnf
    refine SBool.mk (fun hc => ?_) (fun hc => ?_)
    · conv => whnf
      have hkl : k < xs.length := by simpa using hc
      refine SEx.mk (sc xs[k]) (by simp [hkl]) ?_
      conv => whnf
      refine SEx.mk _ (h xs[k] (List.getElem_mem hkl)) ?_
      conv => whnf
      refine SAnd.mk ⟨by intro c hc; simp at hc; subst hc; rfl, by simp; omega, by simp; omega⟩ ?_
      conv => whnf
      refine ⟨⟨k + 1, by omega⟩, by simp only; omega, ?_⟩
      refine SLe.of [] [(0, 2)] rfl rfl ?_
      conv => whnf
      refine SAnd.mk (PLe.of_eq (by simp only [wrapK]; rw [wrap_id (by omega) (by omega)]; simp)) ?_
      conv => whnf
      refine SAnd.mk (PLe.refl _) ?_
      conv => whnf
      refine SAnd.mk (PLe.refl _) ?_
      conv => whnf
      refine SAnd.mk (PLe.refl _) ?_
      conv => whnf
      refine SAnd.mk (take_map_succ hkl _).symm ?_
      exact True.intro
    · conv => whnf
      have : k = xs.length := by simp at hc; omega
      subst this
      exact ⟨PLe.of_eq (by simp)⟩
theorem mapped117_pure (f : Sg → Int) (g : FuncId) (caps : List PV) (xs : List Sg) (hl : xs.length ≤ 1000000) (h : ∀ x ∈ xs, APure C g (.agg (sc x) :: caps) (I (f x))) :
    APure C 117 [.seq 6 (xs.map sc), .fn g caps] (.seq 1 (xs.map fun x => [I (f x)])) := by
  refine APure.of_body good [] (fn := Tryz.f117) (by kernel_rfl) (by kernel_rfl) rfl rfl (by kernel_rfl) rfl (by kernel_rfl) ?_
  conv => whnf
  refine ⟨AWp.loop (ι := { k : Nat // k ≤ xs.length }) (fun k => ⟨[(10, .p (I k.1)), (9, .p (I xs.length)), (8, .p (.seq 6 (xs.map sc))), (5, .own 0), (1, .p (.fn g caps))], [], [(0, (3, 1, (xs.take k.1).map fun x => [I (f x)]))], 1, [], [], []⟩) (fun k => xs.length - k.1) ⟨0, by simp⟩ ?_ ?_⟩
  · refine SLe.row 5 3 1 ?_
    conv => whnf
    refine SLe.of [] [(0, 0)] rfl rfl ?_
    conv => whnf
    refine SAnd.mk (PLe.refl _) ?_
    conv => whnf
    refine SAnd.mk (PLe.of_eq (by simp)) ?_
    conv => whnf
    refine SAnd.mk (PLe.refl _) ?_
    conv => whnf
    refine SAnd.mk (PLe.refl _) ?_
    conv => whnf
    refine SAnd.mk rfl ?_
    exact True.intro
  · rintro ⟨k, hk⟩
    refine codeK_sound good (mu := []) ?_
    conv => whnf
    refine SBool.mk (fun hc => ?_) (fun hc => ?_)
    · conv => whnf
      have hkl : k < xs.length := by simpa using hc
      refine SEx.mk (sc xs[k]) (by simp [hkl]) ?_
      conv => whnf
      refine SEx.mk _ (h xs[k] (List.getElem_mem hkl)) ?_
      conv => whnf
      refine SAnd.mk ⟨by intro c hc; simp at hc; subst hc; rfl, by simp; omega, by simp; omega⟩ ?_
      conv => whnf
      refine ⟨⟨k + 1, by omega⟩, by simp only; omega, ?_⟩
      refine SLe.of [] [(0, 2)] rfl rfl ?_
      conv => whnf
      refine SAnd.mk (PLe.of_eq (by simp only [wrapK]; rw [wrap_id (by omega) (by omega)]; simp)) ?_
      conv => whnf
      refine SAnd.mk (PLe.refl _) ?_
      conv => whnf
      refine SAnd.mk (PLe.refl _) ?_
      conv => whnf
      refine SAnd.mk (PLe.refl _) ?_
      conv => whnf
      refine SAnd.mk (take_map_succ hkl _).symm ?_
      exact True.intro
    · conv => whnf
      have : k = xs.length := by simp at hc; omega
      subst this
      exact ⟨PLe.of_eq (by simp)⟩
end Go.Proofs.Ab.Tone
end
section
/- Structs compared. -/
set_option maxRecDepth 100000
set_option linter.unusedVariables false
set_option linter.unusedSimpArgs false
namespace Go.Proofs.Ab.Tone
open Go Go.RowKit Go.Proofs.Ab
theorem eq2 {P : Program} {t : TypeId} {f1 f2 : Field} (hS : P.underlying t = some (.struct (P.fieldsOf t))) (hp : P.stoodInHeld t = false) (hf : (P.fieldsOf t).toList = [f1, f2]) (hn1 : f1.name ≠ "_") (hn2 : f2.name ≠ "_")
    (hu1 : P.underlying f1.type = some (.int .i64)) (hu2 : P.underlying f2.type = some (.int .i64)) (ho1 : f1.offset = 0) (ho2 : f2.offset = 1) (a b c d : Int) (k : Nat) (w : World) :
    (Op.equalIn (k + 2) t (.agg #[.int .i64 a, .int .i64 b]) (.agg #[.int .i64 c, .int .i64 d])).run P w = .ok (decide (a = c ∧ b = d)) w := by
  rw [run_equalIn_struct w (k + 1) t _ _ hS hp, hf]
  by_cases h1 : a = c <;> by_cases h2 : b = d <;> simp [Op.eqFields, hn1, hn2, part, isAgg, run_underlying hu1, run_underlying hu2, ho1, ho2, run_equalIn_int w k f1.type .i64 .i64 _ _ hu1, run_equalIn_int w k f2.type .i64 .i64 _ _ hu2, h1, h2]
theorem eqAgg2 {t : TypeId} {f1 f2 : Field} (hS : C.P.underlying t = some (.struct (C.P.fieldsOf t))) (hp : C.P.stoodInHeld t = false) (hf : (C.P.fieldsOf t).toList = [f1, f2]) (hn1 : f1.name ≠ "_") (hn2 : f2.name ≠ "_")
    (hu1 : C.P.underlying f1.type = some (.int .i64)) (hu2 : C.P.underlying f2.type = some (.int .i64)) (ho1 : f1.offset = 0) (ho2 : f2.offset = 1) (hm : C.P.eqGuardType C.P.depth t = false) (a b c d : Int) :
    EqAgg C t [I a, I b] [I c, I d] (decide (a = c ∧ b = d)) := by
  intro x y w ok us vs hu hv
  obtain ⟨u1, us1, rfl, h1, hu⟩ := hu.uncons
  obtain ⟨u2, us2, rfl, h2, hu⟩ := hu.uncons
  obtain rfl := hu.unnil
  obtain ⟨v1, vs1, rfl, h3, hv⟩ := hv.uncons
  obtain ⟨v2, vs2, rfl, h4, hv⟩ := hv.uncons
  obtain rfl := hv.unnil
  cases h1; cases h2; cases h3; cases h4
  exact ⟨run_eqGuard_agg w _ t x y _ _ hm, run_eqGuard_agg w _ t x y _ _ hm, eq2 hS hp hf hn1 hn2 hu1 hu2 ho1 ho2 a b c d 9998 w⟩
theorem eq6 {P : Program} {t g : TypeId} {f1 f2 f3 : Field} {i : TypeInfo} {fs : Array Field} (hS : P.underlying t = some (.struct (P.fieldsOf t))) (hp : P.stoodInHeld t = false) (hf : (P.fieldsOf t).toList = [f1, f2, f3]) (hn1 : f1.name ≠ "_") (hn2 : f2.name ≠ "_") (hn3 : f3.name ≠ "_")
    (ht1 : f1.type = g) (ht2 : f2.type = g) (ht3 : f3.type = g) (ho1 : f1.offset = 0) (ho2 : f2.offset = 2) (ho3 : f3.offset = 4) (hg : P.underlying g = some (.struct fs)) (hi : P.info? g = some i) (hi2 : i.size = 2)
    (heq : ∀ (a b c d : Int) (k : Nat) (w : World), (Op.equalIn (k + 2) g (.agg #[.int .i64 a, .int .i64 b]) (.agg #[.int .i64 c, .int .i64 d])).run P w = .ok (decide (a = c ∧ b = d)) w) (a b c d e f a' b' c' d' e' f' : Int) (k : Nat) (w : World) :
    (Op.equalIn (k + 3) t (.agg #[.int .i64 a, .int .i64 b, .int .i64 c, .int .i64 d, .int .i64 e, .int .i64 f]) (.agg #[.int .i64 a', .int .i64 b', .int .i64 c', .int .i64 d', .int .i64 e', .int .i64 f'])).run P w = .ok (decide ((a = a' ∧ b = b') ∧ (c = c' ∧ d = d') ∧ (e = e' ∧ f = f'))) w := by
  rw [run_equalIn_struct w (k + 2) t _ _ hS hp, hf]
  have p : ∀ (xs : Array Value) (off : Nat) (u v : Value), off + 2 ≤ xs.size → xs.extract off (off + 2) = #[u, v] → (part g xs off).run P w = .ok (.agg #[u, v]) w := by
    intro xs off u v hx he
    simp [part, isAgg, run_underlying hg, sizeOf, typeInfo, hi, hi2, he, hx]
  have q1 := fun x1 x2 x3 x4 x5 x6 : Value => p #[x1, x2, x3, x4, x5, x6] 0 x1 x2 (by simp) (by simp)
  have q2 := fun x1 x2 x3 x4 x5 x6 : Value => p #[x1, x2, x3, x4, x5, x6] 2 x3 x4 (by simp) (by simp)
  have q3 := fun x1 x2 x3 x4 x5 x6 : Value => p #[x1, x2, x3, x4, x5, x6] 4 x5 x6 (by simp) (by simp)
  simp only [Op.eqFields, hn1, hn2, hn3, ht1, ht2, ht3, ho1, ho2, ho3, ne_eq, not_false_eq_true, if_true, Sem.run_bind, q1, q2, q3, Result.andThen_ok, heq]
  by_cases h1 : a = a' ∧ b = b'
  · by_cases h2 : c = c' ∧ d = d'
    · by_cases h3 : e = e' ∧ f = f'
      · simp [h1, h2, h3, heq, q1, q2, q3]
      · simp [h1, h2, h3, heq, q1, q2, q3]
    · simp [h1, h2, heq, q1, q2, q3]
  · simp [h1, q1, q2, q3]
theorem eqAgg6 {t g : TypeId} {f1 f2 f3 : Field} {i : TypeInfo} {fs : Array Field} (hS : C.P.underlying t = some (.struct (C.P.fieldsOf t))) (hp : C.P.stoodInHeld t = false) (hf : (C.P.fieldsOf t).toList = [f1, f2, f3]) (hn1 : f1.name ≠ "_") (hn2 : f2.name ≠ "_") (hn3 : f3.name ≠ "_")
    (ht1 : f1.type = g) (ht2 : f2.type = g) (ht3 : f3.type = g) (ho1 : f1.offset = 0) (ho2 : f2.offset = 2) (ho3 : f3.offset = 4) (hg : C.P.underlying g = some (.struct fs)) (hi : C.P.info? g = some i) (hi2 : i.size = 2) (hm : C.P.eqGuardType C.P.depth t = false)
    (heq : ∀ (a b c d : Int) (k : Nat) (w : World), (Op.equalIn (k + 2) g (.agg #[.int .i64 a, .int .i64 b]) (.agg #[.int .i64 c, .int .i64 d])).run C.P w = .ok (decide (a = c ∧ b = d)) w) (a b c d e f a' b' c' d' e' f' : Int) :
    EqAgg C t [I a, I b, I c, I d, I e, I f] [I a', I b', I c', I d', I e', I f'] (decide ((a = a' ∧ b = b') ∧ (c = c' ∧ d = d') ∧ (e = e' ∧ f = f'))) := by
  intro x y w ok us vs hu hv
  obtain ⟨u1, us1, rfl, h1, hu⟩ := hu.uncons
  obtain ⟨u2, us2, rfl, h2, hu⟩ := hu.uncons
  obtain ⟨u3, us3, rfl, h3, hu⟩ := hu.uncons
  obtain ⟨u4, us4, rfl, h4, hu⟩ := hu.uncons
  obtain ⟨u5, us5, rfl, h5, hu⟩ := hu.uncons
  obtain ⟨u6, us6, rfl, h6, hu⟩ := hu.uncons
  obtain rfl := hu.unnil
  obtain ⟨v1, vs1, rfl, g1, hv⟩ := hv.uncons
  obtain ⟨v2, vs2, rfl, g2, hv⟩ := hv.uncons
  obtain ⟨v3, vs3, rfl, g3, hv⟩ := hv.uncons
  obtain ⟨v4, vs4, rfl, g4, hv⟩ := hv.uncons
  obtain ⟨v5, vs5, rfl, g5, hv⟩ := hv.uncons
  obtain ⟨v6, vs6, rfl, g6, hv⟩ := hv.uncons
  obtain rfl := hv.unnil
  cases h1; cases h2; cases h3; cases h4; cases h5; cases h6; cases g1; cases g2; cases g3; cases g4; cases g5; cases g6
  exact ⟨run_eqGuard_agg w _ t x y _ _ hm, run_eqGuard_agg w _ t x y _ _ hm, eq6 hS hp hf hn1 hn2 hn3 ht1 ht2 ht3 ho1 ho2 ho3 hg hi hi2 heq a b c d e f a' b' c' d' e' f' 9997 w⟩
theorem eq_gauss (a b c d : Int) : EqAgg C 23 [I a, I b] [I c, I d] (decide (a = c ∧ b = d)) :=
  eqAgg2 (f1 := ⟨ "Re", 3, 0, false, "", "", 0⟩) (f2 := ⟨ "Im", 3, 1, false, "", "", 8⟩) (by kernel_rfl) (by kernel_rfl) (by kernel_rfl) (by decide) (by decide) (by kernel_rfl) (by kernel_rfl) rfl rfl (by kernel_rfl) a b c d
theorem eq_ratio (a b c d : Int) : EqAgg C 28 [I a, I b] [I c, I d] (decide (a = c ∧ b = d)) :=
  eqAgg2 (f1 := ⟨ "Num", 3, 0, false, "", "", 0⟩) (f2 := ⟨ "Den", 3, 1, false, "", "", 8⟩) (by kernel_rfl) (by kernel_rfl) (by kernel_rfl) (by decide) (by decide) (by kernel_rfl) (by kernel_rfl) rfl rfl (by kernel_rfl) a b c d
theorem eq_interval (a b c d : Int) : EqAgg C 55 [I a, I b] [I c, I d] (decide (a = c ∧ b = d)) :=
  eqAgg2 (f1 := ⟨ "Low", 3, 0, false, "", "", 0⟩) (f2 := ⟨ "High", 3, 1, false, "", "", 8⟩) (by kernel_rfl) (by kernel_rfl) (by kernel_rfl) (by decide) (by decide) (by kernel_rfl) (by kernel_rfl) rfl rfl (by kernel_rfl) a b c d
theorem eqIn_gauss (a b c d : Int) (k : Nat) (w : World) : (Op.equalIn (k + 2) 23 (.agg #[.int .i64 a, .int .i64 b]) (.agg #[.int .i64 c, .int .i64 d])).run C.P w = .ok (decide (a = c ∧ b = d)) w :=
  eq2 (f1 := ⟨ "Re", 3, 0, false, "", "", 0⟩) (f2 := ⟨ "Im", 3, 1, false, "", "", 8⟩) (by kernel_rfl) (by kernel_rfl) (by kernel_rfl) (by decide) (by decide) (by kernel_rfl) (by kernel_rfl) rfl rfl a b c d k w
theorem eq_signal (a b c d e f a' b' c' d' e' f' : Int) : EqAgg C 32 [I a, I b, I c, I d, I e, I f] [I a', I b', I c', I d', I e', I f'] (decide ((a = a' ∧ b = b') ∧ (c = c' ∧ d = d') ∧ (e = e' ∧ f = f'))) :=
  eqAgg6 (g := 23) (i := Tryz.t23) (fs := #[⟨ "Re", 3, 0, false, "", "", 0⟩, ⟨ "Im", 3, 1, false, "", "", 8⟩]) (f1 := ⟨ "Carrier", 23, 0, false, "", "", 0⟩) (f2 := ⟨ "Low", 23, 2, false, "", "", 16⟩) (f3 := ⟨ "High", 23, 4, false, "", "", 32⟩) (by kernel_rfl) (by kernel_rfl) (by kernel_rfl) (by decide) (by decide) (by decide) rfl rfl rfl rfl rfl rfl (by kernel_rfl) (by kernel_rfl) rfl (by kernel_rfl) eqIn_gauss a b c d e f a' b' c' d' e' f'
end Go.Proofs.Ab.Tone
end
section
/- Signals: their errors, products with the carrier. -/
set_option maxRecDepth 100000
set_option linter.unusedVariables false
set_option linter.unusedSimpArgs false
namespace Go.Proofs.Ab.Tone
open Go Go.RowKit Go.Proofs.Ab
def offE (a : G) (bad : Int) : Int := if partE a.re a.im 10000 = 0 then 0 else bad
theorem inside1_pure (bad : Int) (a : G) : APure C 160 [.agg (gc a), .ref [I bad]] (I (offE a bad)) := by
  refine APure.of_body good [] (fn := Tryz.f160) (by kernel_rfl) (by kernel_rfl) rfl rfl (by kernel_rfl) rfl (by kernel_rfl) ?_
  conv => whnf
  repeat' (first
    | (refine codeK_sound good (mu := []) ?_; conv => whnf)
    | ((first | rw [wl0] | rw [wl1] | rw [wl2] | rw [wl3] | rw [wl4] | rw [wl5]); conv => whnf)
    | (refine SBool.mk (fun _ => ?_) (fun h => absurd (of_decide_eq_true rfl) h); conv => whnf)
    | (refine SBool.mk (fun h => absurd h (of_decide_eq_false rfl)) (fun _ => ?_); conv => whnf)
    | (refine SBool.mk (fun h => ?_) (fun h => ?_) <;> conv => whnf)
    | (refine SEx.mk _ (by first | exact part_pure _ _ _ | exact when_pure _ _) ?_; conv => whnf)
    | (refine SEx.mk _ (by first | exact rfl | exact ⟨of_decide_eq_true rfl, rfl⟩) ?_; conv => whnf)
    | (refine SAll.mk (fun _ => ?_); conv => whnf)
    | (refine SAnd.mk ⟨by intro c hc; simp at hc; first | (subst hc; rfl) | ((repeat' (rcases hc with rfl | hc)) <;> first | rfl | (subst hc; rfl)), by (simp; first | done | omega), by (simp; first | done | omega)⟩ ?_; conv => whnf)
    | (refine SAnd.mk (by first | exact rfl | kernel_rfl | omega | decide | exact part_pure _ _ _ | exact when_pure _ _) ?_; conv => whnf)
    | fail)
  all_goals exact ⟨PLe.of_eq (by simp [offE, *])⟩
def insideE (s : Sg) (bad : Int) : Int := firstOf [offE s.c bad, offE s.l bad, offE s.h bad]
theorem inside_pure (s : Sg) (bad : Int) : APure C 99 [.agg (sc s), I bad] (I (insideE s bad)) := by
  refine APure.of_body good [] (fn := Tryz.f99) (by kernel_rfl) (by kernel_rfl) rfl rfl (by kernel_rfl) rfl (by kernel_rfl) ?_
  conv => whnf
  repeat' (first
    | (refine codeK_sound good (mu := []) ?_; conv => whnf)
    | ((first | rw [wl0] | rw [wl1] | rw [wl2] | rw [wl3] | rw [wl4] | rw [wl5]); conv => whnf)
    | (refine SBool.mk (fun _ => ?_) (fun h => absurd (of_decide_eq_true rfl) h); conv => whnf)
    | (refine SBool.mk (fun h => absurd h (of_decide_eq_false rfl)) (fun _ => ?_); conv => whnf)
    | (refine SBool.mk (fun h => ?_) (fun h => ?_) <;> conv => whnf)
    | (refine SEx.mk _ (by first | exact numbers_pure _ _ _ _ _ _ | exact mapped159_pure (fun a => offE a bad) 160 [.ref [I bad]] [s.c, s.l, s.h] (by simp) (fun x _ => inside1_pure bad x) | exact first3_pure _ _ _) ?_; conv => whnf)
    | (refine SEx.mk _ (by first | exact rfl | exact ⟨of_decide_eq_true rfl, rfl⟩) ?_; conv => whnf)
    | (refine SAll.mk (fun _ => ?_); conv => whnf)
    | (refine SAnd.mk ⟨by intro c hc; simp at hc; first | (subst hc; rfl) | ((repeat' (rcases hc with rfl | hc)) <;> first | rfl | (subst hc; rfl)), by (simp; first | done | omega), by (simp; first | done | omega)⟩ ?_; conv => whnf)
    | (refine SAnd.mk (by first | exact rfl | kernel_rfl | omega | decide | exact numbers_pure _ _ _ _ _ _ | exact mapped159_pure (fun a => offE a bad) 160 [.ref [I bad]] [s.c, s.l, s.h] (by simp) (fun x _ => inside1_pure bad x) | exact first3_pure _ _ _) ?_; conv => whnf)
    | fail)
  all_goals exact ⟨PLe.refl _⟩
def zeroE (a : G) : Int := if a.re = 0 ∧ a.im = 0 then 6 else 0
def checkE (s : Sg) : Int := firstOf [insideE s 3, zeroE s.c]
theorem CheckSignal_pure (s : Sg) : APure C 25 [.agg (sc s)] (I (checkE s)) := by
  refine APure.of_body good [] (fn := Tryz.f25) (by kernel_rfl) (by kernel_rfl) rfl rfl (by kernel_rfl) rfl (by kernel_rfl) ?_
  conv => whnf
  repeat' (first
    | (refine codeK_sound good (mu := []) ?_; conv => whnf)
    | ((first | rw [wl0] | rw [wl1] | rw [wl2] | rw [wl3] | rw [wl4] | rw [wl5]); conv => whnf)
    | (refine SBool.mk (fun _ => ?_) (fun h => absurd (of_decide_eq_true rfl) h); conv => whnf)
    | (refine SBool.mk (fun h => absurd h (of_decide_eq_false rfl)) (fun _ => ?_); conv => whnf)
    | (refine SBool.mk (fun h => ?_) (fun h => ?_) <;> conv => whnf)
    | (refine SEx.mk _ (by first | exact inside_pure s 3 | exact eq_gauss _ _ _ _ | exact when_pure _ _ | exact first2_pure _ _) ?_; conv => whnf)
    | (refine SEx.mk _ (by first | exact rfl | exact ⟨of_decide_eq_true rfl, rfl⟩) ?_; conv => whnf)
    | (refine SAll.mk (fun _ => ?_); conv => whnf)
    | (refine SAnd.mk ⟨by intro c hc; simp at hc; first | (subst hc; rfl) | ((repeat' (rcases hc with rfl | hc)) <;> first | rfl | (subst hc; rfl)), by (simp; first | done | omega), by (simp; first | done | omega)⟩ ?_; conv => whnf)
    | (refine SAnd.mk (by first | exact rfl | kernel_rfl | omega | decide | exact inside_pure s 3 | exact eq_gauss _ _ _ _ | exact when_pure _ _ | exact first2_pure _ _) ?_; conv => whnf)
    | fail)
  all_goals rw [decide_eq_true_eq] at h
  · exact ⟨PLe.of_eq (by simp only [checkE, zeroE]; rw [if_pos h]; rfl)⟩
  · exact ⟨PLe.of_eq (by simp only [checkE, zeroE]; rw [if_neg h]; rfl)⟩
/-- Both parts are at most 10000; .. of all three numbers. -/
structure G.Fit (a : G) (m : Nat) : Prop where
  re : a.re.natAbs ≤ m
  im : a.im.natAbs ≤ m
structure Sg.Fit (s : Sg) (m : Nat) : Prop where
  c : s.c.Fit m
  l : s.l.Fit m
  h : s.h.Fit m
theorem w64 {n : Int} (h : n.natAbs ≤ 4000000000000000000) : wrap64 n = n := wrap_id (by omega) (by omega)
def aga (s : Sg) (a : G) : Int := a.re * s.c.re + a.im * s.c.im
theorem against_pure (s : Sg) (a : G) (hs : s.c.Fit 1000000) (ha : a.Fit 4000000) : APure C 87 [.agg (sc s), .agg (gc a)] (I (aga s a)) := by
  have e1 := hs.re; have e2 := hs.im; have e3 := ha.re; have e4 := ha.im
  have w1 : wrap64 (0 - s.c.im) = -s.c.im := by rw [w64 (by omega)]; omega
  refine APure.of_body good [] (fn := Tryz.f87) (by kernel_rfl) (by kernel_rfl) rfl rfl (by kernel_rfl) rfl (by kernel_rfl) ?_
  conv => whnf
  repeat' (first
    | (refine codeK_sound good (mu := []) ?_; conv => whnf)
    | ((first | rw [wl0] | rw [wl1] | rw [wl2] | rw [wl3] | rw [wl4] | rw [wl5]); conv => whnf)
    | (refine SBool.mk (fun _ => ?_) (fun h => absurd (of_decide_eq_true rfl) h); conv => whnf)
    | (refine SBool.mk (fun h => absurd h (of_decide_eq_false rfl)) (fun _ => ?_); conv => whnf)
    | (refine SBool.mk (fun h => ?_) (fun h => ?_) <;> conv => whnf)
    | (refine SEx.mk _ (by first | exact conjugate_pure _ _) ?_; conv => whnf)
    | (refine SEx.mk _ (by first | exact rfl | exact ⟨of_decide_eq_true rfl, rfl⟩) ?_; conv => whnf)
    | (refine SAll.mk (fun _ => ?_); conv => whnf)
    | (refine SAnd.mk ⟨by intro c hc; simp at hc; first | (subst hc; rfl) | ((repeat' (rcases hc with rfl | hc)) <;> first | rfl | (subst hc; rfl)), by (simp; first | done | omega), by (simp; first | done | omega)⟩ ?_; conv => whnf)
    | (refine SAnd.mk (by first | exact rfl | kernel_rfl | omega | decide | exact conjugate_pure _ _) ?_; conv => whnf)
    | fail)
  rw [w1]
  refine SEx.mk _ (times_pure _ _ _ _ (by omega) (by omega) (by omega) (by omega)) ?_
  conv => whnf
  exact ⟨PLe.of_eq (by simp [aga, Int.mul_neg, Int.sub_neg])⟩
def G.sub (a b : G) : G := ⟨a.re - b.re, a.im - b.im⟩
def G.add (a b : G) : G := ⟨a.re + b.re, a.im + b.im⟩
theorem plus_fit (a b : G) (m : Nat) (hm : m ≤ 1000000000000000) (ha : a.Fit m) (hb : b.Fit m) : APure C 102 [.agg (gc a), .agg (gc b)] (.agg (gc (a.add b))) := by
  have e1 := ha.re; have e2 := ha.im; have e3 := hb.re; have e4 := hb.im
  have := plus_pure a.re a.im b.re b.im
  rw [w64 (n := a.re + b.re) (by omega), w64 (n := a.im + b.im) (by omega)] at this
  exact this
theorem minus_fit (a b : G) (m : Nat) (hm : m ≤ 1000000000000000) (ha : a.Fit m) (hb : b.Fit m) : APure C 166 [.agg (gc a), .agg (gc b)] (.agg (gc (a.sub b))) := by
  have e1 := ha.re; have e2 := ha.im; have e3 := hb.re; have e4 := hb.im
  have := minus_pure a.re a.im b.re b.im
  rw [w64 (n := a.re - b.re) (by omega), w64 (n := a.im - b.im) (by omega)] at this
  exact this
theorem G.Fit.sub {a b : G} {m : Nat} (ha : a.Fit m) (hb : b.Fit m) : (a.sub b).Fit (2 * m) := by
  have e1 := ha.re; have e2 := ha.im; have e3 := hb.re; have e4 := hb.im
  constructor <;> simp only [G.sub] <;> omega
theorem G.Fit.add {a b : G} {m : Nat} (ha : a.Fit m) (hb : b.Fit m) : (a.add b).Fit (2 * m) := by
  have e1 := ha.re; have e2 := ha.im; have e3 := hb.re; have e4 := hb.im
  constructor <;> simp only [G.add] <;> omega
theorem G.Fit.mono {a : G} {m n : Nat} (ha : a.Fit m) (h : m ≤ n) : a.Fit n := ⟨Nat.le_trans ha.re h, Nat.le_trans ha.im h⟩
def dif (s : Sg) : Int := aga s (s.l.sub s.h)
def tot (s : Sg) : Int := aga s (s.l.add s.h)
theorem difference_pure (s : Sg) (hs : s.Fit 1000000) : APure C 123 [.agg (sc s)] (I (dif s)) := by
  refine APure.of_body good [] (fn := Tryz.f123) (by kernel_rfl) (by kernel_rfl) rfl rfl (by kernel_rfl) rfl (by kernel_rfl) ?_
  conv => whnf
  repeat' (first
    | (refine codeK_sound good (mu := []) ?_; conv => whnf)
    | ((first | rw [wl0] | rw [wl1] | rw [wl2] | rw [wl3] | rw [wl4] | rw [wl5]); conv => whnf)
    | (refine SBool.mk (fun _ => ?_) (fun h => absurd (of_decide_eq_true rfl) h); conv => whnf)
    | (refine SBool.mk (fun h => absurd h (of_decide_eq_false rfl)) (fun _ => ?_); conv => whnf)
    | (refine SBool.mk (fun h => ?_) (fun h => ?_) <;> conv => whnf)
    | (refine SEx.mk _ (by first | exact minus_fit s.l s.h 1000000 (by decide) hs.l hs.h | exact against_pure s (s.l.sub s.h) hs.c ((hs.l.sub hs.h).mono (by decide))) ?_; conv => whnf)
    | (refine SEx.mk _ (by first | exact rfl | exact ⟨of_decide_eq_true rfl, rfl⟩) ?_; conv => whnf)
    | (refine SAll.mk (fun _ => ?_); conv => whnf)
    | (refine SAnd.mk ⟨by intro c hc; simp at hc; first | (subst hc; rfl) | ((repeat' (rcases hc with rfl | hc)) <;> first | rfl | (subst hc; rfl)), by (simp; first | done | omega), by (simp; first | done | omega)⟩ ?_; conv => whnf)
    | (refine SAnd.mk (by first | exact rfl | kernel_rfl | omega | decide | exact minus_fit s.l s.h 1000000 (by decide) hs.l hs.h | exact against_pure s (s.l.sub s.h) hs.c ((hs.l.sub hs.h).mono (by decide))) ?_; conv => whnf)
    | fail)
  all_goals exact ⟨PLe.refl _⟩
theorem sum_pure (s : Sg) (hs : s.Fit 1000000) : APure C 90 [.agg (sc s)] (I (tot s)) := by
  refine APure.of_body good [] (fn := Tryz.f90) (by kernel_rfl) (by kernel_rfl) rfl rfl (by kernel_rfl) rfl (by kernel_rfl) ?_
  conv => whnf
  repeat' (first
    | (refine codeK_sound good (mu := []) ?_; conv => whnf)
    | ((first | rw [wl0] | rw [wl1] | rw [wl2] | rw [wl3] | rw [wl4] | rw [wl5]); conv => whnf)
    | (refine SBool.mk (fun _ => ?_) (fun h => absurd (of_decide_eq_true rfl) h); conv => whnf)
    | (refine SBool.mk (fun h => absurd h (of_decide_eq_false rfl)) (fun _ => ?_); conv => whnf)
    | (refine SBool.mk (fun h => ?_) (fun h => ?_) <;> conv => whnf)
    | (refine SEx.mk _ (by first | exact plus_fit s.l s.h 1000000 (by decide) hs.l hs.h | exact against_pure s (s.l.add s.h) hs.c ((hs.l.add hs.h).mono (by decide))) ?_; conv => whnf)
    | (refine SEx.mk _ (by first | exact rfl | exact ⟨of_decide_eq_true rfl, rfl⟩) ?_; conv => whnf)
    | (refine SAll.mk (fun _ => ?_); conv => whnf)
    | (refine SAnd.mk ⟨by intro c hc; simp at hc; first | (subst hc; rfl) | ((repeat' (rcases hc with rfl | hc)) <;> first | rfl | (subst hc; rfl)), by (simp; first | done | omega), by (simp; first | done | omega)⟩ ?_; conv => whnf)
    | (refine SAnd.mk (by first | exact rfl | kernel_rfl | omega | decide | exact plus_fit s.l s.h 1000000 (by decide) hs.l hs.h | exact against_pure s (s.l.add s.h) hs.c ((hs.l.add hs.h).mono (by decide))) ?_; conv => whnf)
    | fail)
  all_goals exact ⟨PLe.refl _⟩
def sq (a : G) : Int := a.re * a.re + a.im * a.im
theorem sq_bound {n : Int} {m : Nat} (h : n.natAbs ≤ m) : (n * n).natAbs ≤ m * m := by
  rw [Int.natAbs_mul]
  exact Nat.mul_le_mul h h
theorem square_fit (a : G) (ha : a.Fit 1000000) : APure C 88 [.agg (gc a)] (I (sq a)) := by
  have e1 := sq_bound ha.re; have e2 := sq_bound ha.im
  have := square_pure a.re a.im
  rw [w64 (n := a.re * a.re) (by omega), w64 (n := a.im * a.im) (by omega), w64 (by omega)] at this
  exact this
end Go.Proofs.Ab.Tone
end
section
/- Ratios in lowest terms. -/
set_option maxRecDepth 100000
set_option linter.unusedVariables false
set_option linter.unusedSimpArgs false
namespace Go.Proofs.Ab.Tone
open Go Go.RowKit Go.Proofs.Ab
/-- Lowest terms. -/
structure R where
  num : Int
  den : Int
  deriving DecidableEq
abbrev rc (r : R) : List PV := [I r.num, I r.den]
def low (n d : Int) : R := ⟨n / (Int.gcd n d : Int), d / (Int.gcd n d : Int)⟩
theorem tdiv_exact {n g : Int} (h : g ∣ n) : n.tdiv g = n / g := by
  obtain ⟨k, rfl⟩ := h
  by_cases hg : g = 0
  · subst hg; simp
  · rw [Int.mul_tdiv_cancel_left _ hg, Int.mul_ediv_cancel_left _ hg]
theorem gcd_step (a b : Int) : Int.gcd b (a.tmod b) = Int.gcd a b := by
  unfold Int.gcd
  rw [Int.natAbs_tmod, Nat.gcd_comm a.natAbs, Nat.gcd_rec b.natAbs a.natAbs, Nat.gcd_comm]
theorem natAbs_tdiv_le (n g : Int) : (n.tdiv g).natAbs ≤ n.natAbs := by
  rw [Int.natAbs_tdiv]; exact Nat.div_le_self _ _
theorem lowest_pure (num den : Int) (hn : num.natAbs ≤ 4000000000000000000) (hd : 0 < den) (hd2 : den ≤ 4000000000000000000) : APure C 86 [I num, I den] (.agg (rc (low num den))) := by
  refine APure.of_body good [] (fn := Tryz.f86) (by kernel_rfl) (by kernel_rfl) rfl rfl (by kernel_rfl) rfl (by kernel_rfl) ?_
  conv => whnf
  refine ⟨AWp.loop (ι := { p : Int × Int // 0 ≤ p.1 ∧ 0 ≤ p.2 ∧ p.1 ≤ 4000000000000000000 ∧ p.2 ≤ 4000000000000000000 ∧ Int.gcd p.1 p.2 = Int.gcd num den })
    (fun p => ⟨[(6, .p (I p.1.2)), (5, .p (I p.1.1)), (4, .box 0 0), (0, .p (I num)), (1, .p (I den))], [(0, (28, [I 0, I 0]))], [], 1, [], [], []⟩) (fun p => p.1.2.toNat) ⟨(max num (wrap64 (0 - num)), den), ?_⟩ ?_ ?_⟩
  · rw [w64 (n := 0 - num) (by omega)]
    refine ⟨by simp only; omega, by simp only; omega, by simp only; omega, by simp only; omega, ?_⟩
    have e : max num (0 - num) = (num.natAbs : Int) := by omega
    simp only
    rw [e]
    unfold Int.gcd
    simp
  · refine SLe.of [(0, 0)] [] rfl rfl ?_
    conv => whnf
    repeat' (first
    | exact True.intro
    | (refine SAnd.mk (PLe.of_eq (by simp only [wrapK]; rw [wrap_id (by first | omega | (simp only; done) | (simp only; omega) | simp) (by first | omega | (simp only; done) | (simp only; omega) | simp)]; simp)) ?_; conv => whnf)
    | (refine SAnd.mk (PLe.refl _) ?_; conv => whnf)
    | (refine SAnd.mk (PLeL.refl _) ?_; conv => whnf)
    | (refine SAnd.mk (PLe.of_eq (by simp)) ?_; conv => whnf)
    | (refine SAnd.mk rfl ?_; conv => whnf)
    | (refine SAnd.mk ⟨rfl, rfl⟩ ?_; conv => whnf)
    | (refine SAnd.mk ⟨rfl, rfl, rfl⟩ ?_; conv => whnf))
  · rintro ⟨⟨a, b⟩, ha, hb, ham, hbm, hg⟩
    refine codeK_sound good (mu := []) ?_
    conv => whnf
    refine SBool.mk (fun h => ?_) (fun h => ?_)
    · conv => whnf
      have h0 : b = 0 := h
      simp only at ha hg
      have hga : (Int.gcd num den : Int) = a := by
        rw [← hg, h0]
        unfold Int.gcd
        simp
        omega
      have hpos : 0 < (Int.gcd num den : Int) := by
        have := Int.gcd_pos_of_ne_zero_right num (b := den) (by omega)
        omega
      have d1 : a ∣ num := hga ▸ Int.gcd_dvd_left ..
      have d2 : a ∣ den := hga ▸ Int.gcd_dvd_right ..
      have b1 := natAbs_tdiv_le num a
      have b2 := natAbs_tdiv_le den a
      refine SAnd.mk (by kernel_rfl) ?_
      conv => whnf
      refine SAnd.mk (by show a ≠ 0; omega) ?_
      conv => whnf
      refine SAnd.mk (by show a ≠ 0; omega) ?_
      conv => whnf
      refine ⟨PLe.of_eq ?_⟩
      show PV.agg [I (wrap64 (num.tdiv a)), I (wrap64 (den.tdiv a))] = _
      rw [w64 (by omega), w64 (by omega), tdiv_exact d1, tdiv_exact d2]
      unfold low
      rw [hga]
    · conv => whnf
      have h0 : ¬ b = 0 := h
      refine SAnd.mk (by kernel_rfl) ?_
      conv => whnf
      refine SAnd.mk h0 ?_
      conv => whnf
      simp only at ha hb ham hbm hg
      have e : a.tmod b = a % b := Int.tmod_eq_emod_of_nonneg ha
      have l1 := Int.emod_nonneg a h0
      have l2 := Int.emod_lt_of_pos a (by omega : 0 < b)
      refine ⟨⟨(b, a.tmod b), hb, by rw [e]; exact l1, hbm, by rw [e]; omega, by rw [← hg]; exact gcd_step a b⟩, by simp only; omega, ?_⟩
      · refine SLe.of [(0, 0)] [] rfl rfl ?_
        conv => whnf
        repeat' (first
        | exact True.intro
        | (refine SAnd.mk (PLe.of_eq (by simp only [wrapK]; rw [wrap_id (by first | omega | (simp only; done) | (simp only; omega) | simp) (by first | omega | (simp only; done) | (simp only; omega) | simp)]; simp)) ?_; conv => whnf)
        | (refine SAnd.mk (PLe.refl _) ?_; conv => whnf)
        | (refine SAnd.mk (PLeL.refl _) ?_; conv => whnf)
        | (refine SAnd.mk (PLe.of_eq (by simp)) ?_; conv => whnf)
        | (refine SAnd.mk rfl ?_; conv => whnf)
        | (refine SAnd.mk ⟨rfl, rfl⟩ ?_; conv => whnf)
        | (refine SAnd.mk ⟨rfl, rfl, rfl⟩ ?_; conv => whnf))
end Go.Proofs.Ab.Tone
end
section
/- Needles, sums; sums of signals, turns, factors. -/
set_option maxRecDepth 100000
set_option linter.unusedVariables false
set_option linter.unusedSimpArgs false
namespace Go.Proofs.Ab.Tone
open Go Go.RowKit Go.Proofs.Ab
theorem firstOf_zero {x : Int} {xs : List Int} : firstOf (x :: xs) = 0 ↔ x = 0 ∧ firstOf xs = 0 := by
  show (if x = 0 then firstOf xs else x) = 0 ↔ _
  split
  · rename_i h; simp [h]
  · rename_i h; simp [h]
theorem partE_zero {a b m : Int} (hm : 0 ≤ m) (hm2 : m ≤ 1000000000000) : partE a b m = 0 ↔ a.natAbs ≤ m.toNat ∧ b.natAbs ≤ m.toNat := by
  unfold partE
  rw [w64 (n := 0 - m) (by omega), firstOf_zero, firstOf_zero]
  unfold within firstOf
  constructor
  · rintro ⟨h1, h2, _⟩
    split at h1
    · simp at h1
    · split at h2
      · simp at h2
      · omega
  · rintro ⟨h1, h2⟩
    rw [if_neg (by omega), if_neg (by omega)]
    exact ⟨rfl, rfl, rfl⟩
theorem offE_zero {a : G} {bad : Int} (hb : bad ≠ 0) : offE a bad = 0 ↔ a.Fit 10000 := by
  unfold offE
  constructor
  · intro h
    split at h
    · rename_i h1
      have := (partE_zero (by decide) (by decide)).1 h1
      exact ⟨this.1, this.2⟩
    · exact absurd h hb
  · intro h
    rw [if_pos ((partE_zero (by decide) (by decide)).2 ⟨h.re, h.im⟩)]
theorem insideE_zero {s : Sg} {bad : Int} (hb : bad ≠ 0) : insideE s bad = 0 ↔ s.Fit 10000 := by
  unfold insideE
  rw [firstOf_zero, firstOf_zero, firstOf_zero, offE_zero hb, offE_zero hb, offE_zero hb]
  exact ⟨fun ⟨h1, h2, h3, _⟩ => ⟨h1, h2, h3⟩, fun h => ⟨h.c, h.l, h.h, rfl⟩⟩
/-- A valid signal. -/
structure Ok (s : Sg) : Prop where
  fit : s.Fit 10000
  nz : ¬ (s.c.re = 0 ∧ s.c.im = 0)
theorem zeroE_zero {a : G} : zeroE a = 0 ↔ ¬ (a.re = 0 ∧ a.im = 0) := by
  unfold zeroE
  split
  · rename_i h; simp [h]
  · rename_i h; exact ⟨fun _ => h, fun _ => rfl⟩
theorem checkE_zero {s : Sg} : checkE s = 0 ↔ Ok s := by
  unfold checkE
  rw [firstOf_zero, firstOf_zero, insideE_zero (by decide), zeroE_zero]
  exact ⟨fun ⟨h1, h2, _⟩ => ⟨h1, h2⟩, fun h => ⟨h.fit, h.nz, rfl⟩⟩
theorem Sg.Fit.mono {s : Sg} {m n : Nat} (h : s.Fit m) (hm : m ≤ n) : s.Fit n := ⟨h.c.mono hm, h.l.mono hm, h.h.mono hm⟩
theorem sq_nonneg (a : Int) : 0 ≤ a * a := by
  rcases Int.le_total 0 a with h | h
  · exact Int.mul_nonneg h h
  · exact Int.mul_nonneg_of_nonpos_of_nonpos h h
theorem sq_pos {a : Int} (h : a ≠ 0) : 0 < a * a := by
  have := sq_nonneg a
  have : a * a ≠ 0 := fun e => by rcases Int.mul_eq_zero.1 e with e | e <;> exact h e
  omega
theorem sq_le {a : G} (h : a.Fit 10000) : sq a ≤ 200000000 := by
  have e1 := sq_bound h.re; have e2 := sq_bound h.im
  unfold sq
  omega
theorem Ok.sq_pos {s : Sg} (h : Ok s) : 0 < sq s.c := by
  have := h.nz
  unfold sq
  have e1 := sq_nonneg s.c.re; have e2 := sq_nonneg s.c.im
  by_cases h1 : s.c.re = 0
  · have := Tone.sq_pos (a := s.c.im) (fun e => this ⟨h1, e⟩)
    omega
  · have := Tone.sq_pos h1
    omega
theorem aga_bound {s : Sg} {a : G} {m n : Nat} (hs : s.c.Fit m) (ha : a.Fit n) : (aga s a).natAbs ≤ 2 * (n * m) := by
  have e1 : (a.re * s.c.re).natAbs ≤ n * m := by rw [Int.natAbs_mul]; exact Nat.mul_le_mul ha.re hs.re
  have e2 : (a.im * s.c.im).natAbs ≤ n * m := by rw [Int.natAbs_mul]; exact Nat.mul_le_mul ha.im hs.im
  unfold aga
  omega
theorem dif_bound {s : Sg} (h : s.Fit 10000) : (dif s).natAbs ≤ 400000000 := aga_bound h.c (h.l.sub h.h)
theorem tot_bound {s : Sg} (h : s.Fit 10000) : (tot s).natAbs ≤ 400000000 := aga_bound h.c (h.l.add h.h)
theorem needle_pure (s : Sg) (h : Ok s) : APure C 89 [.agg (sc s)] (.agg (rc (low (dif s) (sq s.c)))) := by
  have hf := h.fit.mono (n := 1000000) (by decide)
  have b1 := dif_bound h.fit; have b2 := sq_le h.fit.c
  refine APure.of_body good [] (fn := Tryz.f89) (by kernel_rfl) (by kernel_rfl) rfl rfl (by kernel_rfl) rfl (by kernel_rfl) ?_
  conv => whnf
  repeat' (first
    | (refine codeK_sound good (mu := []) ?_; conv => whnf)
    | ((first | rw [wl0] | rw [wl1] | rw [wl2] | rw [wl3] | rw [wl4] | rw [wl5]); conv => whnf)
    | (refine SBool.mk (fun _ => ?_) (fun h => absurd (of_decide_eq_true rfl) h); conv => whnf)
    | (refine SBool.mk (fun h => absurd h (of_decide_eq_false rfl)) (fun _ => ?_); conv => whnf)
    | (refine SBool.mk (fun h => ?_) (fun h => ?_) <;> conv => whnf)
    | (refine SEx.mk _ (by first | exact difference_pure s hf | exact square_fit s.c hf.c | exact lowest_pure _ _ (by omega) h.sq_pos (by omega)) ?_; conv => whnf)
    | (refine SEx.mk _ (by first | exact rfl | exact ⟨of_decide_eq_true rfl, rfl⟩) ?_; conv => whnf)
    | (refine SAll.mk (fun _ => ?_); conv => whnf)
    | (refine SAnd.mk ⟨by intro c hc; simp at hc; first | (subst hc; rfl) | ((repeat' (rcases hc with rfl | hc)) <;> first | rfl | (subst hc; rfl)), by (simp; first | done | omega), by (simp; first | done | omega)⟩ ?_; conv => whnf)
    | (refine SAnd.mk (by first | exact rfl | kernel_rfl | omega | decide | exact difference_pure s hf | exact square_fit s.c hf.c | exact lowest_pure _ _ (by omega) h.sq_pos (by omega)) ?_; conv => whnf)
    | fail)
  all_goals exact ⟨PLe.refl _⟩
def R0 : R := ⟨0, 0⟩
def G0 : G := ⟨0, 0⟩
def S0 : Sg := ⟨G0, G0, G0⟩
def needleR (s : Sg) : R := if checkE s = 0 then low (dif s) (sq s.c) else R0
def sumR (s : Sg) : R := if checkE s = 0 then low (tot s) (sq s.c) else R0
theorem Needle_pure (s : Sg) : APure C 16 [.agg (sc s)] (.tup [.agg (rc (needleR s)), I (checkE s)]) := by
  refine APure.of_body good [] (fn := Tryz.f16) (by kernel_rfl) (by kernel_rfl) rfl rfl (by kernel_rfl) rfl (by kernel_rfl) ?_
  conv => whnf
  repeat' (first
    | (refine codeK_sound good (mu := []) ?_; conv => whnf)
    | ((first | rw [wl0] | rw [wl1] | rw [wl2] | rw [wl3] | rw [wl4] | rw [wl5]); conv => whnf)
    | (refine SBool.mk (fun _ => ?_) (fun h => absurd (of_decide_eq_true rfl) h); conv => whnf)
    | (refine SBool.mk (fun h => absurd h (of_decide_eq_false rfl)) (fun _ => ?_); conv => whnf)
    | (refine SBool.mk (fun h => ?_) (fun h => ?_) <;> conv => whnf)
    | (refine SEx.mk _ (by first | exact CheckSignal_pure s | exact needle_pure s (checkE_zero.1 (by assumption))) ?_; conv => whnf)
    | (refine SEx.mk _ (by first | exact rfl | exact ⟨of_decide_eq_true rfl, rfl⟩) ?_; conv => whnf)
    | (refine SAll.mk (fun _ => ?_); conv => whnf)
    | (refine SAnd.mk ⟨by intro c hc; simp at hc; first | (subst hc; rfl) | ((repeat' (rcases hc with rfl | hc)) <;> first | rfl | (subst hc; rfl)), by (simp; first | done | omega), by (simp; first | done | omega)⟩ ?_; conv => whnf)
    | (refine SAnd.mk (by first | exact rfl | kernel_rfl | omega | decide | exact CheckSignal_pure s | exact needle_pure s (checkE_zero.1 (by assumption))) ?_; conv => whnf)
    | fail)
  · exact ⟨PLe.of_eq (by unfold needleR; rw [if_pos h, h])⟩
  · exact ⟨PLe.of_eq (by unfold needleR; rw [if_neg h]; rfl)⟩
theorem Sum_pure (s : Sg) : APure C 17 [.agg (sc s)] (.tup [.agg (rc (sumR s)), I (checkE s)]) := by
  refine APure.of_body good [] (fn := Tryz.f17) (by kernel_rfl) (by kernel_rfl) rfl rfl (by kernel_rfl) rfl (by kernel_rfl) ?_
  conv => whnf
  repeat' (first
    | (refine codeK_sound good (mu := []) ?_; conv => whnf)
    | ((first | rw [wl0] | rw [wl1] | rw [wl2] | rw [wl3] | rw [wl4] | rw [wl5]); conv => whnf)
    | (refine SBool.mk (fun _ => ?_) (fun h => absurd (of_decide_eq_true rfl) h); conv => whnf)
    | (refine SBool.mk (fun h => absurd h (of_decide_eq_false rfl)) (fun _ => ?_); conv => whnf)
    | (refine SBool.mk (fun h => ?_) (fun h => ?_) <;> conv => whnf)
    | (refine SEx.mk _ (by first | exact CheckSignal_pure s) ?_; conv => whnf)
    | (refine SEx.mk _ (by first | exact rfl | exact ⟨of_decide_eq_true rfl, rfl⟩) ?_; conv => whnf)
    | (refine SAll.mk (fun _ => ?_); conv => whnf)
    | (refine SAnd.mk ⟨by intro c hc; simp at hc; first | (subst hc; rfl) | ((repeat' (rcases hc with rfl | hc)) <;> first | rfl | (subst hc; rfl)), by (simp; first | done | omega), by (simp; first | done | omega)⟩ ?_; conv => whnf)
    | (refine SAnd.mk (by first | exact rfl | kernel_rfl | omega | decide | exact CheckSignal_pure s) ?_; conv => whnf)
    | fail)
  · have hv := checkE_zero.1 h
    have hf := hv.fit.mono (n := 1000000) (by decide)
    have b1 := tot_bound hv.fit; have b2 := sq_le hv.fit.c
    conv => whnf
    repeat' (first
      | (refine codeK_sound good (mu := []) ?_; conv => whnf)
      | ((first | rw [wl0] | rw [wl1] | rw [wl2] | rw [wl3] | rw [wl4] | rw [wl5]); conv => whnf)
      | (refine SBool.mk (fun _ => ?_) (fun h => absurd (of_decide_eq_true rfl) h); conv => whnf)
      | (refine SBool.mk (fun h => absurd h (of_decide_eq_false rfl)) (fun _ => ?_); conv => whnf)
      | (refine SBool.mk (fun h => ?_) (fun h => ?_) <;> conv => whnf)
      | (refine SEx.mk _ (by first | exact sum_pure s hf | exact square_fit s.c hf.c | exact lowest_pure _ _ (by omega) hv.sq_pos (by omega)) ?_; conv => whnf)
      | (refine SEx.mk _ (by first | exact rfl | exact ⟨of_decide_eq_true rfl, rfl⟩) ?_; conv => whnf)
      | (refine SAll.mk (fun _ => ?_); conv => whnf)
      | (refine SAnd.mk ⟨by intro c hc; simp at hc; first | (subst hc; rfl) | ((repeat' (rcases hc with rfl | hc)) <;> first | rfl | (subst hc; rfl)), by (simp; first | done | omega), by (simp; first | done | omega)⟩ ?_; conv => whnf)
      | (refine SAnd.mk (by first | exact rfl | kernel_rfl | omega | decide | exact sum_pure s hf | exact square_fit s.c hf.c | exact lowest_pure _ _ (by omega) hv.sq_pos (by omega)) ?_; conv => whnf)
      | fail)
    exact ⟨PLe.of_eq (by unfold sumR; rw [if_pos h, h])⟩
  · exact ⟨PLe.of_eq (by unfold sumR; rw [if_neg h]; rfl)⟩
def madeE (s : Sg) : Int := firstOf [insideE s 4, zeroE s.c]
theorem madeE_zero {s : Sg} : madeE s = 0 ↔ Ok s := by
  unfold madeE
  rw [firstOf_zero, firstOf_zero, insideE_zero (by decide), zeroE_zero]
  exact ⟨fun ⟨h1, h2, _⟩ => ⟨h1, h2⟩, fun h => ⟨h.fit, h.nz, rfl⟩⟩
def madeS (s : Sg) : Sg := if madeE s = 0 then s else S0
theorem when_zero (a : G) (h : decide (a.re = 0 ∧ a.im = 0) = true) : APure C 100 [Bo true, I 6] (I (zeroE a)) := by
  have := when_pure true 6
  rw [decide_eq_true_eq] at h
  unfold zeroE
  rw [if_pos h]
  exact this
theorem when_nz (a : G) (h : ¬ decide (a.re = 0 ∧ a.im = 0) = true) : APure C 100 [Bo false, I 6] (I (zeroE a)) := by
  have := when_pure false 6
  rw [decide_eq_true_eq] at h
  unfold zeroE
  rw [if_neg h]
  exact this
theorem made_pure (s : Sg) : APure C 101 [.agg (sc s)] (.tup [.agg (sc (madeS s)), I (madeE s)]) := by
  refine APure.of_body good [] (fn := Tryz.f101) (by kernel_rfl) (by kernel_rfl) rfl rfl (by kernel_rfl) rfl (by kernel_rfl) ?_
  conv => whnf
  repeat' (first
    | (refine codeK_sound good (mu := []) ?_; conv => whnf)
    | ((first | rw [wl0] | rw [wl1] | rw [wl2] | rw [wl3] | rw [wl4] | rw [wl5]); conv => whnf)
    | (refine SBool.mk (fun _ => ?_) (fun h => absurd (of_decide_eq_true rfl) h); conv => whnf)
    | (refine SBool.mk (fun h => absurd h (of_decide_eq_false rfl)) (fun _ => ?_); conv => whnf)
    | (refine SBool.mk (fun h => ?_) (fun h => ?_) <;> conv => whnf)
    | (refine SEx.mk _ (by first | exact inside_pure s 4 | exact eq_gauss _ _ _ _ | exact when_zero s.c (by assumption) | exact when_nz s.c (by assumption) | exact first2_pure _ _) ?_; conv => whnf)
    | (refine SEx.mk _ (by first | exact rfl | exact ⟨of_decide_eq_true rfl, rfl⟩) ?_; conv => whnf)
    | (refine SAll.mk (fun _ => ?_); conv => whnf)
    | (refine SAnd.mk ⟨by intro c hc; simp at hc; first | (subst hc; rfl) | ((repeat' (rcases hc with rfl | hc)) <;> first | rfl | (subst hc; rfl)), by (simp; first | done | omega), by (simp; first | done | omega)⟩ ?_; conv => whnf)
    | (refine SAnd.mk (by first | exact rfl | kernel_rfl | omega | decide | exact inside_pure s 4 | exact eq_gauss _ _ _ _ | exact when_zero s.c (by assumption) | exact when_nz s.c (by assumption) | exact first2_pure _ _) ?_; conv => whnf)
    | fail)
  all_goals first
    | (have h0 : madeE s = 0 := by assumption); exact ⟨PLe.of_eq (by unfold madeS; rw [if_pos h0, h0])⟩
    | (have h0 : ¬ madeE s = 0 := by assumption); exact ⟨PLe.of_eq (by unfold madeS; rw [if_neg h0]; rfl)⟩
def Sg.add (a b : Sg) : Sg := ⟨a.c.add b.c, a.l.add b.l, a.h.add b.h⟩
def addedE (a b : Sg) : Int := if firstOf [checkE a, checkE b] = 0 then madeE (a.add b) else firstOf [checkE a, checkE b]
def addedS (a b : Sg) : Sg := if firstOf [checkE a, checkE b] = 0 then madeS (a.add b) else S0
theorem Added_pure (a b : Sg) : APure C 26 [.agg (sc a), .agg (sc b)] (.tup [.agg (sc (addedS a b)), I (addedE a b)]) := by
  refine APure.of_body good [] (fn := Tryz.f26) (by kernel_rfl) (by kernel_rfl) rfl rfl (by kernel_rfl) rfl (by kernel_rfl) ?_
  conv => whnf
  repeat' (first
    | (refine codeK_sound good (mu := []) ?_; conv => whnf)
    | ((first | rw [wl0] | rw [wl1] | rw [wl2] | rw [wl3] | rw [wl4] | rw [wl5]); conv => whnf)
    | (refine SBool.mk (fun _ => ?_) (fun h => absurd (of_decide_eq_true rfl) h); conv => whnf)
    | (refine SBool.mk (fun h => absurd h (of_decide_eq_false rfl)) (fun _ => ?_); conv => whnf)
    | (refine SBool.mk (fun h => ?_) (fun h => ?_) <;> conv => whnf)
    | (refine SEx.mk _ (by first | exact CheckSignal_pure _ | exact first2_pure _ _) ?_; conv => whnf)
    | (refine SEx.mk _ (by first | exact rfl | exact ⟨of_decide_eq_true rfl, rfl⟩) ?_; conv => whnf)
    | (refine SAll.mk (fun _ => ?_); conv => whnf)
    | (refine SAnd.mk ⟨by intro c hc; simp at hc; first | (subst hc; rfl) | ((repeat' (rcases hc with rfl | hc)) <;> first | rfl | (subst hc; rfl)), by (simp; first | done | omega), by (simp; first | done | omega)⟩ ?_; conv => whnf)
    | (refine SAnd.mk (by first | exact rfl | kernel_rfl | omega | decide | exact CheckSignal_pure _ | exact first2_pure _ _) ?_; conv => whnf)
    | fail)
  · have h' := h
    rw [firstOf_zero, firstOf_zero] at h'
    have ha := (checkE_zero.1 h'.1).fit
    have hb := (checkE_zero.1 h'.2.1).fit
    conv => whnf
    repeat' (first
      | (refine codeK_sound good (mu := []) ?_; conv => whnf)
      | ((first | rw [wl0] | rw [wl1] | rw [wl2] | rw [wl3] | rw [wl4] | rw [wl5]); conv => whnf)
      | (refine SBool.mk (fun _ => ?_) (fun h => absurd (of_decide_eq_true rfl) h); conv => whnf)
      | (refine SBool.mk (fun h => absurd h (of_decide_eq_false rfl)) (fun _ => ?_); conv => whnf)
      | (refine SBool.mk (fun h => ?_) (fun h => ?_) <;> conv => whnf)
      | (refine SEx.mk _ (by first | exact plus_fit a.c b.c 10000 (by decide) ha.c hb.c | exact plus_fit a.l b.l 10000 (by decide) ha.l hb.l | exact plus_fit a.h b.h 10000 (by decide) ha.h hb.h | exact made_pure (a.add b)) ?_; conv => whnf)
      | (refine SEx.mk _ (by first | exact rfl | exact ⟨of_decide_eq_true rfl, rfl⟩) ?_; conv => whnf)
      | (refine SAll.mk (fun _ => ?_); conv => whnf)
      | (refine SAnd.mk ⟨by intro c hc; simp at hc; first | (subst hc; rfl) | ((repeat' (rcases hc with rfl | hc)) <;> first | rfl | (subst hc; rfl)), by (simp; first | done | omega), by (simp; first | done | omega)⟩ ?_; conv => whnf)
      | (refine SAnd.mk (by first | exact rfl | kernel_rfl | omega | decide | exact plus_fit a.c b.c 10000 (by decide) ha.c hb.c | exact plus_fit a.l b.l 10000 (by decide) ha.l hb.l | exact plus_fit a.h b.h 10000 (by decide) ha.h hb.h | exact made_pure (a.add b)) ?_; conv => whnf)
      | fail)
    exact ⟨PLe.of_eq (by unfold addedS addedE; rw [if_pos h, if_pos h])⟩
  · exact ⟨PLe.of_eq (by unfold addedS addedE; rw [if_neg h, if_neg h]; rfl)⟩
/-- The product of two complex integers. -/
def G.mul (a b : G) : G := ⟨a.re * b.re - a.im * b.im, a.re * b.im + a.im * b.re⟩
theorem times_fit (a b : G) (ha : a.Fit 4000000) (hb : b.Fit 1000000) : APure C 105 [.agg (gc a), .agg (gc b)] (.agg (gc (a.mul b))) := times_pure a.re a.im b.re b.im ha.re ha.im hb.re hb.im
theorem scaled11_pure (f a : G) (hf : f.Fit 1000000) (ha : a.Fit 4000000) : APure C 109 [.agg (gc a), .ref (gc f)] (.agg (gc (a.mul f))) := by
  refine APure.of_body good [] (fn := Tryz.f109) (by kernel_rfl) (by kernel_rfl) rfl rfl (by kernel_rfl) rfl (by kernel_rfl) ?_
  conv => whnf
  repeat' (first
    | (refine codeK_sound good (mu := []) ?_; conv => whnf)
    | ((first | rw [wl0] | rw [wl1] | rw [wl2] | rw [wl3] | rw [wl4] | rw [wl5]); conv => whnf)
    | (refine SBool.mk (fun _ => ?_) (fun h => absurd (of_decide_eq_true rfl) h); conv => whnf)
    | (refine SBool.mk (fun h => absurd h (of_decide_eq_false rfl)) (fun _ => ?_); conv => whnf)
    | (refine SBool.mk (fun h => ?_) (fun h => ?_) <;> conv => whnf)
    | (refine SEx.mk _ (by first | exact times_fit a f ha hf) ?_; conv => whnf)
    | (refine SEx.mk _ (by first | exact rfl | exact ⟨of_decide_eq_true rfl, rfl⟩) ?_; conv => whnf)
    | (refine SAll.mk (fun _ => ?_); conv => whnf)
    | (refine SAnd.mk ⟨by intro c hc; simp at hc; first | (subst hc; rfl) | ((repeat' (rcases hc with rfl | hc)) <;> first | rfl | (subst hc; rfl)), by (simp; first | done | omega), by (simp; first | done | omega)⟩ ?_; conv => whnf)
    | (refine SAnd.mk (by first | exact rfl | kernel_rfl | omega | decide | exact times_fit a f ha hf) ?_; conv => whnf)
    | fail)
  exact ⟨PLe.refl _⟩
theorem scaled1_pure (f : G) : APure C 108 [.agg (gc f)] (.fn 109 [.ref (gc f)]) := by
  refine APure.of_body good [] (fn := Tryz.f108) (by kernel_rfl) (by kernel_rfl) rfl rfl (by kernel_rfl) rfl (by kernel_rfl) ?_
  conv => whnf
  repeat' (first
    | (refine codeK_sound good (mu := []) ?_; conv => whnf)
    | ((first | rw [wl0] | rw [wl1] | rw [wl2] | rw [wl3] | rw [wl4] | rw [wl5]); conv => whnf)
    | (refine SBool.mk (fun _ => ?_) (fun h => absurd (of_decide_eq_true rfl) h); conv => whnf)
    | (refine SBool.mk (fun h => absurd h (of_decide_eq_false rfl)) (fun _ => ?_); conv => whnf)
    | (refine SBool.mk (fun h => ?_) (fun h => ?_) <;> conv => whnf)
    | (refine SEx.mk _ (by first | exact rfl | exact ⟨of_decide_eq_true rfl, rfl⟩) ?_; conv => whnf)
    | (refine SAll.mk (fun _ => ?_); conv => whnf)
    | (refine SAnd.mk ⟨by intro c hc; simp at hc; first | (subst hc; rfl) | ((repeat' (rcases hc with rfl | hc)) <;> first | rfl | (subst hc; rfl)), by (simp; first | done | omega), by (simp; first | done | omega)⟩ ?_; conv => whnf)
    | (refine SAnd.mk (by first | exact rfl | kernel_rfl | omega | decide) ?_; conv => whnf)
    | fail)
  exact ⟨PLe.refl _⟩
theorem each_pure (s : Sg) (f g : FuncId) (cf cg : List PV) (c l h : G) (h1 : APure C f (.agg (gc s.c) :: cf) (.agg (gc c))) (h2 : APure C g (.agg (gc s.l) :: cg) (.agg (gc l))) (h3 : APure C g (.agg (gc s.h) :: cg) (.agg (gc h))) :
    APure C 106 [.agg (sc s), .fn f cf, .fn g cg] (.agg (sc ⟨c, l, h⟩)) := by
  refine APure.of_body good [] (fn := Tryz.f106) (by kernel_rfl) (by kernel_rfl) rfl rfl (by kernel_rfl) rfl (by kernel_rfl) ?_
  conv => whnf
  repeat' (first
    | (refine codeK_sound good (mu := []) ?_; conv => whnf)
    | ((first | rw [wl0] | rw [wl1] | rw [wl2] | rw [wl3] | rw [wl4] | rw [wl5]); conv => whnf)
    | (refine SBool.mk (fun _ => ?_) (fun h => absurd (of_decide_eq_true rfl) h); conv => whnf)
    | (refine SBool.mk (fun h => absurd h (of_decide_eq_false rfl)) (fun _ => ?_); conv => whnf)
    | (refine SBool.mk (fun h => ?_) (fun h => ?_) <;> conv => whnf)
    | (refine SEx.mk _ (by first | exact h1 | exact h2 | exact h3) ?_; conv => whnf)
    | (refine SEx.mk _ (by first | exact rfl | exact ⟨of_decide_eq_true rfl, rfl⟩) ?_; conv => whnf)
    | (refine SAll.mk (fun _ => ?_); conv => whnf)
    | (refine SAnd.mk (by first | exact h1 | exact h2 | exact h3) ?_; conv => whnf)
    | (refine SAnd.mk ⟨by intro c hc; simp at hc; first | (subst hc; rfl) | ((repeat' (rcases hc with rfl | hc)) <;> first | rfl | (subst hc; rfl)), by (simp; first | done | omega), by (simp; first | done | omega)⟩ ?_; conv => whnf)
    | (refine SAnd.mk (by first | exact rfl | kernel_rfl | omega | decide | exact h1 | exact h2 | exact h3) ?_; conv => whnf)
    | fail)
  exact ⟨PLe.refl _⟩
def factE (s : Sg) (c d : G) : Int := firstOf [checkE s, partE c.re c.im 1000, zeroE c, partE d.re d.im 1000]
def Sg.by (s : Sg) (c d : G) : Sg := ⟨s.c.mul c, s.l.mul d, s.h.mul d⟩
def scaledE (s : Sg) (c d : G) : Int := if factE s c d = 0 then madeE (s.by c d) else factE s c d
def scaledS (s : Sg) (c d : G) : Sg := if factE s c d = 0 then madeS (s.by c d) else S0
theorem Scaled_pure (s : Sg) (c d : G) : APure C 28 [.agg (sc s), .agg (gc c), .agg (gc d)] (.tup [.agg (sc (scaledS s c d)), I (scaledE s c d)]) := by
  refine APure.of_body good [] (fn := Tryz.f28) (by kernel_rfl) (by kernel_rfl) rfl rfl (by kernel_rfl) rfl (by kernel_rfl) ?_
  conv => whnf
  repeat' (first
    | (refine codeK_sound good (mu := []) ?_; conv => whnf)
    | ((first | rw [wl0] | rw [wl1] | rw [wl2] | rw [wl3] | rw [wl4] | rw [wl5]); conv => whnf)
    | (refine SBool.mk (fun _ => ?_) (fun h => absurd (of_decide_eq_true rfl) h); conv => whnf)
    | (refine SBool.mk (fun h => absurd h (of_decide_eq_false rfl)) (fun _ => ?_); conv => whnf)
    | (refine SBool.mk (fun h => ?_) (fun h => ?_) <;> conv => whnf)
    | (refine SEx.mk _ (by first | exact CheckSignal_pure _ | exact part_pure _ _ _ | exact eq_gauss _ _ _ _ | exact when_zero c (by assumption) | exact when_nz c (by assumption) | exact first4_pure _ _ _ _ | exact scaled1_pure _) ?_; conv => whnf)
    | (refine SEx.mk _ (by first | exact rfl | exact ⟨of_decide_eq_true rfl, rfl⟩) ?_; conv => whnf)
    | (refine SAll.mk (fun _ => ?_); conv => whnf)
    | (refine SAnd.mk ⟨by intro c hc; simp at hc; first | (subst hc; rfl) | ((repeat' (rcases hc with rfl | hc)) <;> first | rfl | (subst hc; rfl)), by (simp; first | done | omega), by (simp; first | done | omega)⟩ ?_; conv => whnf)
    | (refine SAnd.mk (by first | exact rfl | kernel_rfl | omega | decide | exact CheckSignal_pure _ | exact part_pure _ _ _ | exact eq_gauss _ _ _ _ | exact when_zero c (by assumption) | exact when_nz c (by assumption) | exact first4_pure _ _ _ _ | exact scaled1_pure _) ?_; conv => whnf)
    | fail)
  all_goals rename_i h0
  all_goals first
    | have h' : ¬ factE s c d = 0 := by assumption
      exact ⟨PLe.of_eq (by unfold scaledS scaledE; rw [if_neg h', if_neg h']; rfl)⟩
    | have h1 : factE s c d = 0 := by assumption
      have h' := h1
      unfold factE at h'
      rw [firstOf_zero, firstOf_zero, firstOf_zero, firstOf_zero] at h'
      have hs := (checkE_zero.1 h'.1).fit
      have hc := (partE_zero (by decide) (by decide)).1 h'.2.1
      have hd := (partE_zero (by decide) (by decide)).1 h'.2.2.2.1
      have gc' : c.Fit 1000000 := ⟨Nat.le_trans hc.1 (by decide), Nat.le_trans hc.2 (by decide)⟩
      have gd' : d.Fit 1000000 := ⟨Nat.le_trans hd.1 (by decide), Nat.le_trans hd.2 (by decide)⟩
      conv => whnf
      repeat' (first
        | (refine codeK_sound good (mu := []) ?_; conv => whnf)
        | ((first | rw [wl0] | rw [wl1] | rw [wl2] | rw [wl3] | rw [wl4] | rw [wl5]); conv => whnf)
        | (refine SBool.mk (fun _ => ?_) (fun h => absurd (of_decide_eq_true rfl) h); conv => whnf)
        | (refine SBool.mk (fun h => absurd h (of_decide_eq_false rfl)) (fun _ => ?_); conv => whnf)
        | (refine SBool.mk (fun h => ?_) (fun h => ?_) <;> conv => whnf)
        | (refine SEx.mk _ (by first | exact each_pure s 109 109 _ _ _ _ _ (scaled11_pure c s.c gc' (hs.c.mono (by decide))) (scaled11_pure d s.l gd' (hs.l.mono (by decide))) (scaled11_pure d s.h gd' (hs.h.mono (by decide))) | exact made_pure (s.by c d)) ?_; conv => whnf)
        | (refine SEx.mk _ (by first | exact rfl | exact ⟨of_decide_eq_true rfl, rfl⟩) ?_; conv => whnf)
        | (refine SAll.mk (fun _ => ?_); conv => whnf)
        | (refine SAnd.mk ⟨by intro c hc; simp at hc; first | (subst hc; rfl) | ((repeat' (rcases hc with rfl | hc)) <;> first | rfl | (subst hc; rfl)), by (simp; first | done | omega), by (simp; first | done | omega)⟩ ?_; conv => whnf)
        | (refine SAnd.mk (by first | exact rfl | kernel_rfl | omega | decide | exact each_pure s 109 109 _ _ _ _ _ (scaled11_pure c s.c gc' (hs.c.mono (by decide))) (scaled11_pure d s.l gd' (hs.l.mono (by decide))) (scaled11_pure d s.h gd' (hs.h.mono (by decide))) | exact made_pure (s.by c d)) ?_; conv => whnf)
        | fail)
      exact ⟨PLe.of_eq (by unfold scaledS scaledE; rw [if_pos h1, if_pos h1])⟩
end Go.Proofs.Ab.Tone
end
section
/- Turns; depths. -/
set_option maxRecDepth 100000
set_option linter.unusedVariables false
set_option linter.unusedSimpArgs false
namespace Go.Proofs.Ab.Tone
open Go Go.RowKit Go.Proofs.Ab
def turnN (a : G) : Nat → G
  | 0 => a
  | n + 1 => (turnN a n).mul ⟨0, 1⟩
theorem turnN_fit {a : G} {m : Nat} (h : a.Fit m) : ∀ n, (turnN a n).Fit m
  | 0 => h
  | n + 1 => by
    have ih := turnN_fit h n
    have e1 := ih.re; have e2 := ih.im
    constructor <;> simp only [turnN, G.mul] <;> omega
theorem turned1_pure (k : Int) (a : G) (ha : a.Fit 4000000) (h0 : 0 ≤ k) (hk : k ≤ 3) : APure C 104 [.agg (gc a), .ref [I k]] (.agg (gc (turnN a k.toNat))) := by
  refine APure.of_body good [2] (fn := Tryz.f104) (by kernel_rfl) (by kernel_rfl) rfl rfl (by kernel_rfl) rfl (by kernel_rfl) ?_
  conv => whnf
  refine ⟨AWp.loop (ι := { j : Nat // j ≤ k.toNat }) (fun j => ⟨[(5, .p (I j.1)), (4, .p (I k)), (2, .box 0 0), (3, .box 1 0)], [(0, (23, gc (turnN a j.1))), (1, (23, [I 0, I 0]))], [], 2, [], [], []⟩) (fun j => k.toNat - j.1) ⟨0, by simp⟩ ?_ ?_⟩
  · refine SLe.of [(0, 0), (1, 1)] [] rfl rfl ?_
    conv => whnf
    repeat' (first
    | exact True.intro
    | (refine SAnd.mk (PLe.of_eq (by simp only [wrapK]; rw [wrap_id (by first | omega | (simp only; done) | (simp only; omega) | simp) (by first | omega | (simp only; done) | (simp only; omega) | simp)]; simp)) ?_; conv => whnf)
    | (refine SAnd.mk (PLe.refl _) ?_; conv => whnf)
    | (refine SAnd.mk (PLeL.refl _) ?_; conv => whnf)
    | (refine SAnd.mk (PLe.of_eq (by simp)) ?_; conv => whnf)
    | (refine SAnd.mk rfl ?_; conv => whnf)
    | (refine SAnd.mk ⟨rfl, rfl⟩ ?_; conv => whnf)
    | (refine SAnd.mk ⟨rfl, rfl, rfl⟩ ?_; conv => whnf))
  · rintro ⟨j, hj⟩
    conv => whnf
    repeat' (first
      | (refine codeK_sound good (mu := [2]) ?_; conv => whnf)
      | ((first | rw [wl0] | rw [wl1] | rw [wl2] | rw [wl3] | rw [wl4] | rw [wl5]); conv => whnf)
      | (refine SBool.mk (fun _ => ?_) (fun h => absurd (of_decide_eq_true rfl) h); conv => whnf)
      | (refine SBool.mk (fun h => absurd h (of_decide_eq_false rfl)) (fun _ => ?_); conv => whnf)
      | (refine SBool.mk (fun h => ?_) (fun h => ?_) <;> conv => whnf)
      | (refine SEx.mk _ (by first | exact times_fit (turnN a j) ⟨0, 1⟩ (turnN_fit ha j) ⟨by decide, by decide⟩) ?_; conv => whnf)
      | (refine SEx.mk _ (by first | exact rfl | exact ⟨of_decide_eq_true rfl, rfl⟩) ?_; conv => whnf)
      | (refine SAll.mk (fun _ => ?_); conv => whnf)
      | (refine SAnd.mk ⟨by intro c hc; simp at hc; first | (subst hc; rfl) | ((repeat' (rcases hc with rfl | hc)) <;> first | rfl | (subst hc; rfl)), by (simp; first | done | omega), by (simp; first | done | omega)⟩ ?_; conv => whnf)
      | (refine SAnd.mk (by first | exact rfl | kernel_rfl | omega | decide | exact times_fit (turnN a j) ⟨0, 1⟩ (turnN_fit ha j) ⟨by decide, by decide⟩) ?_; conv => whnf)
      | fail)
    · have hl : (j : Int) < k := h
      refine ⟨⟨j + 1, by omega⟩, by simp only; omega, ?_⟩
      refine SLe.of [(0, 0), (1, 1)] [] rfl rfl ?_
      conv => whnf
      refine SAnd.mk (PLe.of_eq (by simp only [wrapK]; rw [w64 (by omega)]; simp)) ?_
      conv => whnf
      repeat' (first
      | exact True.intro
      | (refine SAnd.mk (PLe.refl _) ?_; conv => whnf)
      | (refine SAnd.mk (PLeL.refl _) ?_; conv => whnf))
    · have hl : ¬ (j : Int) < k := h
      have : j = k.toNat := by omega
      subst this
      exact ⟨PLe.refl _⟩
def Sg.turn (s : Sg) (n : Nat) : Sg := ⟨turnN s.c n, turnN s.l n, turnN s.h n⟩
def turnE (s : Sg) (k : Int) : Int := firstOf [checkE s, within k 0 3]
def turnedS (s : Sg) (k : Int) : Sg := if turnE s k = 0 then s.turn k.toNat else S0
theorem within_zero {n a b : Int} : within n a b = 0 ↔ a ≤ n ∧ n ≤ b := by
  unfold within
  split
  · rename_i h; simp; omega
  · rename_i h; simp; omega
theorem Turned_pure (s : Sg) (k : Int) : APure C 27 [.agg (sc s), I k] (.tup [.agg (sc (turnedS s k)), I (turnE s k)]) := by
  refine APure.of_body good [] (fn := Tryz.f27) (by kernel_rfl) (by kernel_rfl) rfl rfl (by kernel_rfl) rfl (by kernel_rfl) ?_
  conv => whnf
  repeat' (first
    | (refine codeK_sound good (mu := []) ?_; conv => whnf)
    | ((first | rw [wl0] | rw [wl1] | rw [wl2] | rw [wl3] | rw [wl4] | rw [wl5]); conv => whnf)
    | (refine SBool.mk (fun _ => ?_) (fun h => absurd (of_decide_eq_true rfl) h); conv => whnf)
    | (refine SBool.mk (fun h => absurd h (of_decide_eq_false rfl)) (fun _ => ?_); conv => whnf)
    | (refine SBool.mk (fun h => ?_) (fun h => ?_) <;> conv => whnf)
    | (refine SEx.mk _ (by first | exact CheckSignal_pure _ | exact within_pure _ _ _ | exact first2_pure _ _) ?_; conv => whnf)
    | (refine SEx.mk _ (by first | exact rfl | exact ⟨of_decide_eq_true rfl, rfl⟩) ?_; conv => whnf)
    | (refine SAll.mk (fun _ => ?_); conv => whnf)
    | (refine SAnd.mk ⟨by intro c hc; simp at hc; first | (subst hc; rfl) | ((repeat' (rcases hc with rfl | hc)) <;> first | rfl | (subst hc; rfl)), by (simp; first | done | omega), by (simp; first | done | omega)⟩ ?_; conv => whnf)
    | (refine SAnd.mk (by first | exact rfl | kernel_rfl | omega | decide | exact CheckSignal_pure _ | exact within_pure _ _ _ | exact first2_pure _ _) ?_; conv => whnf)
    | fail)
  · have h1 : turnE s k = 0 := h
    have h' := h1
    unfold turnE at h'
    rw [firstOf_zero, firstOf_zero, within_zero] at h'
    have hs := (checkE_zero.1 h'.1).fit.mono (n := 4000000) (by decide)
    conv => whnf
    repeat' (first
      | (refine codeK_sound good (mu := []) ?_; conv => whnf)
      | ((first | rw [wl0] | rw [wl1] | rw [wl2] | rw [wl3] | rw [wl4] | rw [wl5]); conv => whnf)
      | (refine SBool.mk (fun _ => ?_) (fun h => absurd (of_decide_eq_true rfl) h); conv => whnf)
      | (refine SBool.mk (fun h => absurd h (of_decide_eq_false rfl)) (fun _ => ?_); conv => whnf)
      | (refine SBool.mk (fun h => ?_) (fun h => ?_) <;> conv => whnf)
      | (refine SEx.mk _ (by first | exact each_pure s 104 104 _ _ _ _ _ (turned1_pure k s.c hs.c h'.2.1.1 h'.2.1.2) (turned1_pure k s.l hs.l h'.2.1.1 h'.2.1.2) (turned1_pure k s.h hs.h h'.2.1.1 h'.2.1.2)) ?_; conv => whnf)
      | (refine SEx.mk _ (by first | exact rfl | exact ⟨of_decide_eq_true rfl, rfl⟩) ?_; conv => whnf)
      | (refine SAll.mk (fun _ => ?_); conv => whnf)
      | (refine SAnd.mk ⟨by intro c hc; simp at hc; first | (subst hc; rfl) | ((repeat' (rcases hc with rfl | hc)) <;> first | rfl | (subst hc; rfl)), by (simp; first | done | omega), by (simp; first | done | omega)⟩ ?_; conv => whnf)
      | (refine SAnd.mk (by first | exact rfl | kernel_rfl | omega | decide | exact each_pure s 104 104 _ _ _ _ _ (turned1_pure k s.c hs.c h'.2.1.1 h'.2.1.2) (turned1_pure k s.l hs.l h'.2.1.1 h'.2.1.2) (turned1_pure k s.h hs.h h'.2.1.1 h'.2.1.2)) ?_; conv => whnf)
      | fail)
    exact ⟨PLe.of_eq (by unfold turnedS; rw [if_pos h1, h1]; rfl)⟩
  · have h1 : ¬ turnE s k = 0 := h
    exact ⟨PLe.of_eq (by unfold turnedS; rw [if_neg h1]; rfl)⟩
abbrev tonesV : PV := .agg [.fn 155 [], I 1, I 1, I (-1), I (-1), .fn 156 [], I 1, I (-1), I 1, I (-1)]
theorem tones_pure : APure C 85 [] tonesV := by
  refine APure.of_body good [] (fn := Tryz.f85) (by kernel_rfl) (by kernel_rfl) rfl rfl (by kernel_rfl) rfl (by kernel_rfl) ?_
  conv => whnf
  repeat' (first
    | (refine codeK_sound good (mu := []) ?_; conv => whnf)
    | ((first | rw [wl0] | rw [wl1] | rw [wl2] | rw [wl3] | rw [wl4] | rw [wl5]); conv => whnf)
    | (refine SBool.mk (fun _ => ?_) (fun h => absurd (of_decide_eq_true rfl) h); conv => whnf)
    | (refine SBool.mk (fun h => absurd h (of_decide_eq_false rfl)) (fun _ => ?_); conv => whnf)
    | (refine SBool.mk (fun h => ?_) (fun h => ?_) <;> conv => whnf)
    | (refine SEx.mk _ (by first | exact rfl | exact ⟨of_decide_eq_true rfl, rfl⟩) ?_; conv => whnf)
    | (refine SAll.mk (fun _ => ?_); conv => whnf)
    | (refine SAnd.mk ⟨by intro c hc; simp at hc; first | (subst hc; rfl) | ((repeat' (rcases hc with rfl | hc)) <;> first | rfl | (subst hc; rfl)), by (simp; first | done | omega), by (simp; first | done | omega)⟩ ?_; conv => whnf)
    | (refine SAnd.mk (by first | exact rfl | kernel_rfl | omega | decide) ?_; conv => whnf)
    | fail)
  exact ⟨PLe.refl _⟩
theorem tones1_pure (s : Sg) : APure C 155 [.agg (sc s)] (.agg (gc s.l)) := by
  refine APure.of_body good [] (fn := Tryz.f155) (by kernel_rfl) (by kernel_rfl) rfl rfl (by kernel_rfl) rfl (by kernel_rfl) ?_
  conv => whnf
  repeat' (first
    | (refine codeK_sound good (mu := []) ?_; conv => whnf)
    | ((first | rw [wl0] | rw [wl1] | rw [wl2] | rw [wl3] | rw [wl4] | rw [wl5]); conv => whnf)
    | (refine SBool.mk (fun _ => ?_) (fun h => absurd (of_decide_eq_true rfl) h); conv => whnf)
    | (refine SBool.mk (fun h => absurd h (of_decide_eq_false rfl)) (fun _ => ?_); conv => whnf)
    | (refine SBool.mk (fun h => ?_) (fun h => ?_) <;> conv => whnf)
    | (refine SEx.mk _ (by first | exact rfl | exact ⟨of_decide_eq_true rfl, rfl⟩) ?_; conv => whnf)
    | (refine SAll.mk (fun _ => ?_); conv => whnf)
    | (refine SAnd.mk ⟨by intro c hc; simp at hc; first | (subst hc; rfl) | ((repeat' (rcases hc with rfl | hc)) <;> first | rfl | (subst hc; rfl)), by (simp; first | done | omega), by (simp; first | done | omega)⟩ ?_; conv => whnf)
    | (refine SAnd.mk (by first | exact rfl | kernel_rfl | omega | decide) ?_; conv => whnf)
    | fail)
  exact ⟨PLe.refl _⟩
theorem tones2_pure (s : Sg) : APure C 156 [.agg (sc s)] (.agg (gc s.h)) := by
  refine APure.of_body good [] (fn := Tryz.f156) (by kernel_rfl) (by kernel_rfl) rfl rfl (by kernel_rfl) rfl (by kernel_rfl) ?_
  conv => whnf
  repeat' (first
    | (refine codeK_sound good (mu := []) ?_; conv => whnf)
    | ((first | rw [wl0] | rw [wl1] | rw [wl2] | rw [wl3] | rw [wl4] | rw [wl5]); conv => whnf)
    | (refine SBool.mk (fun _ => ?_) (fun h => absurd (of_decide_eq_true rfl) h); conv => whnf)
    | (refine SBool.mk (fun h => absurd h (of_decide_eq_false rfl)) (fun _ => ?_); conv => whnf)
    | (refine SBool.mk (fun h => ?_) (fun h => ?_) <;> conv => whnf)
    | (refine SEx.mk _ (by first | exact rfl | exact ⟨of_decide_eq_true rfl, rfl⟩) ?_; conv => whnf)
    | (refine SAll.mk (fun _ => ?_); conv => whnf)
    | (refine SAnd.mk ⟨by intro c hc; simp at hc; first | (subst hc; rfl) | ((repeat' (rcases hc with rfl | hc)) <;> first | rfl | (subst hc; rfl)), by (simp; first | done | omega), by (simp; first | done | omega)⟩ ?_; conv => whnf)
    | (refine SAnd.mk (by first | exact rfl | kernel_rfl | omega | decide) ?_; conv => whnf)
    | fail)
  exact ⟨PLe.refl _⟩
def depthL (s : Sg) : R := if checkE s = 0 then low (aga s s.l) (sq s.c) else R0
def depthH (s : Sg) : R := if checkE s = 0 then low (aga s s.h) (sq s.c) else R0
theorem Depths_pure (s : Sg) : APure C 15 [.agg (sc s)] (.tup [.agg (rc (depthL s)), .agg (rc (depthH s)), I (checkE s)]) := by
  refine APure.of_body good [] (fn := Tryz.f15) (by kernel_rfl) (by kernel_rfl) rfl rfl (by kernel_rfl) rfl (by kernel_rfl) ?_
  conv => whnf
  repeat' (first
    | (refine codeK_sound good (mu := []) ?_; conv => whnf)
    | ((first | rw [wl0] | rw [wl1] | rw [wl2] | rw [wl3] | rw [wl4] | rw [wl5]); conv => whnf)
    | (refine SBool.mk (fun _ => ?_) (fun h => absurd (of_decide_eq_true rfl) h); conv => whnf)
    | (refine SBool.mk (fun h => absurd h (of_decide_eq_false rfl)) (fun _ => ?_); conv => whnf)
    | (refine SBool.mk (fun h => ?_) (fun h => ?_) <;> conv => whnf)
    | (refine SEx.mk _ (by first | exact CheckSignal_pure _ | exact tones_pure) ?_; conv => whnf)
    | (refine SEx.mk _ (by first | exact rfl | exact ⟨of_decide_eq_true rfl, rfl⟩) ?_; conv => whnf)
    | (refine SAll.mk (fun _ => ?_); conv => whnf)
    | (refine SAnd.mk ⟨by intro c hc; simp at hc; first | (subst hc; rfl) | ((repeat' (rcases hc with rfl | hc)) <;> first | rfl | (subst hc; rfl)), by (simp; first | done | omega), by (simp; first | done | omega)⟩ ?_; conv => whnf)
    | (refine SAnd.mk (by first | exact rfl | kernel_rfl | omega | decide | exact CheckSignal_pure _ | exact tones_pure) ?_; conv => whnf)
    | fail)
  · have hv := checkE_zero.1 h
    have hf := hv.fit.mono (n := 1000000) (by decide)
    have b1 := aga_bound hv.fit.c hv.fit.l; have b3 := aga_bound hv.fit.c hv.fit.h; have b2 := sq_le hv.fit.c
    refine ⟨AWp.rounds 3 ?_⟩
    conv => whnf
    repeat' (first
      | (refine codeK_sound good (mu := []) ?_; conv => whnf)
      | ((first | rw [wl0] | rw [wl1] | rw [wl2] | rw [wl3] | rw [wl4] | rw [wl5]); conv => whnf)
      | (refine SBool.mk (fun _ => ?_) (fun h => absurd (of_decide_eq_true rfl) h); conv => whnf)
      | (refine SBool.mk (fun h => absurd h (of_decide_eq_false rfl)) (fun _ => ?_); conv => whnf)
      | (refine SBool.mk (fun h => ?_) (fun h => ?_) <;> conv => whnf)
      | (refine SEx.mk _ (by first | exact tones1_pure s | exact tones2_pure s | exact against_pure s s.l hf.c (hf.l.mono (by decide)) | exact against_pure s s.h hf.c (hf.h.mono (by decide)) | exact square_fit s.c hf.c | exact lowest_pure _ _ (by omega) hv.sq_pos (by omega)) ?_; conv => whnf)
      | (refine SEx.mk _ (by first | exact rfl | exact ⟨of_decide_eq_true rfl, rfl⟩) ?_; conv => whnf)
      | (refine SAll.mk (fun _ => ?_); conv => whnf)
      | (refine SAnd.mk ⟨by intro c hc; simp at hc; first | (subst hc; rfl) | ((repeat' (rcases hc with rfl | hc)) <;> first | rfl | (subst hc; rfl)), by (simp; first | done | omega), by (simp; first | done | omega)⟩ ?_; conv => whnf)
      | (refine SAnd.mk (by first | exact rfl | kernel_rfl | omega | decide | exact tones1_pure s | exact tones2_pure s | exact against_pure s s.l hf.c (hf.l.mono (by decide)) | exact against_pure s s.h hf.c (hf.h.mono (by decide)) | exact square_fit s.c hf.c | exact lowest_pure _ _ (by omega) hv.sq_pos (by omega)) ?_; conv => whnf)
      | fail)
    exact ⟨PLe.of_eq (by unfold depthL depthH; rw [if_pos h, if_pos h, h])⟩
  · exact ⟨PLe.of_eq (by unfold depthL depthH; rw [if_neg h, if_neg h]; rfl)⟩
end Go.Proofs.Ab.Tone
end
section
/- Receivers. -/
set_option maxRecDepth 100000
set_option linter.unusedVariables false
set_option linter.unusedSimpArgs false
namespace Go.Proofs.Ab.Tone
open Go Go.RowKit Go.Proofs.Ab
structure Rx where
  scale : Int
  full : Int
  least : Int
  lo : Int
  hi : Int
  deriving DecidableEq
abbrev xc (r : Rx) : List PV := [I r.scale, I r.full, I r.least, I r.lo, I r.hi]
def ordE (a b : Int) : Int := if b < a then 11 else 0
theorem when_ord (a b : Int) (h : b < a) : APure C 100 [Bo true, I 11] (I (ordE a b)) := by
  unfold ordE; rw [if_pos h]; exact when_pure true 11
theorem when_nord (a b : Int) (h : ¬ b < a) : APure C 100 [Bo false, I 11] (I (ordE a b)) := by
  unfold ordE; rw [if_neg h]; exact when_pure false 11
def rxE (r : Rx) : Int := firstOf [within r.scale 1 1000, within r.full 1 1000, within r.least 0 200000000, within r.lo (-10000) 10000, within r.hi (-10000) 10000, ordE r.lo r.hi]
theorem CheckReceiver_pure (r : Rx) : APure C 38 [.agg (xc r)] (I (rxE r)) := by
  refine APure.of_body good [] (fn := Tryz.f38) (by kernel_rfl) (by kernel_rfl) rfl rfl (by kernel_rfl) rfl (by kernel_rfl) ?_
  conv => whnf
  repeat' (first
    | (refine codeK_sound good (mu := []) ?_; conv => whnf)
    | ((first | rw [wl0] | rw [wl1] | rw [wl2] | rw [wl3] | rw [wl4] | rw [wl5]); conv => whnf)
    | (refine SBool.mk (fun _ => ?_) (fun h => absurd (of_decide_eq_true rfl) h); conv => whnf)
    | (refine SBool.mk (fun h => absurd h (of_decide_eq_false rfl)) (fun _ => ?_); conv => whnf)
    | (refine SBool.mk (fun h => ?_) (fun h => ?_) <;> conv => whnf)
    | (refine SEx.mk _ (by first | exact within_pure _ _ _ | exact when_ord _ _ (by assumption) | exact when_nord _ _ (by assumption) | exact first6_pure _ _ _ _ _ _) ?_; conv => whnf)
    | (refine SEx.mk _ (by first | exact rfl | exact ⟨of_decide_eq_true rfl, rfl⟩) ?_; conv => whnf)
    | (refine SAll.mk (fun _ => ?_); conv => whnf)
    | (refine SAnd.mk ⟨by intro c hc; simp at hc; first | (subst hc; rfl) | ((repeat' (rcases hc with rfl | hc)) <;> first | rfl | (subst hc; rfl)), by (simp; first | done | omega), by (simp; first | done | omega)⟩ ?_; conv => whnf)
    | (refine SAnd.mk (by first | exact rfl | kernel_rfl | omega | decide | exact within_pure _ _ _ | exact when_ord _ _ (by assumption) | exact when_nord _ _ (by assumption) | exact first6_pure _ _ _ _ _ _) ?_; conv => whnf)
    | fail)
  all_goals exact ⟨PLe.refl _⟩
structure RxOk (r : Rx) : Prop where
  s : 1 ≤ r.scale ∧ r.scale ≤ 1000
  f : 1 ≤ r.full ∧ r.full ≤ 1000
  l : 0 ≤ r.least ∧ r.least ≤ 200000000
  lo : -10000 ≤ r.lo ∧ r.lo ≤ 10000
  hi : -10000 ≤ r.hi ∧ r.hi ≤ 10000
  o : r.lo ≤ r.hi
theorem ordE_zero {a b : Int} : ordE a b = 0 ↔ a ≤ b := by
  unfold ordE
  split
  · rename_i h; simp; omega
  · rename_i h; simp; omega
theorem rxE_zero {r : Rx} : rxE r = 0 ↔ RxOk r := by
  unfold rxE
  rw [firstOf_zero, firstOf_zero, firstOf_zero, firstOf_zero, firstOf_zero, firstOf_zero, within_zero, within_zero, within_zero, within_zero, within_zero, ordE_zero]
  exact ⟨fun ⟨h1, h2, h3, h4, h5, h6, _⟩ => ⟨h1, h2, h3, h4, h5, h6⟩, fun h => ⟨h.s, h.f, h.l, h.lo, h.hi, h.o, rfl⟩⟩

theorem floor_pure (n d : Int) (hn : n.natAbs ≤ 4000000000000000000) (hd : 0 < d) : APure C 119 [I n, I d] (I (n / d)) := by
  have b1 := natAbs_tdiv_le n d
  have e0 : wrapK IntKind.i64 (n.tdiv d) = n.tdiv d := w64 (by omega)
  have hd0 : d ≠ 0 := by omega
  refine APure.of_body good [] (fn := Tryz.f119) (by kernel_rfl) (by kernel_rfl) rfl rfl (by kernel_rfl) rfl (by kernel_rfl) ?_
  conv => whnf
  refine SAnd.mk hd0 ?_
  conv => whnf
  refine SAnd.mk hd0 ?_
  conv => whnf
  repeat' (first
    | (refine codeK_sound good (mu := []) ?_; conv => whnf)
    | ((first | rw [wl0] | rw [wl1] | rw [wl2] | rw [wl3] | rw [wl4] | rw [wl5]); conv => whnf)
    | (refine SBool.mk (fun _ => ?_) (fun h => absurd (of_decide_eq_true rfl) h); conv => whnf)
    | (refine SBool.mk (fun h => absurd h (of_decide_eq_false rfl)) (fun _ => ?_); conv => whnf)
    | (refine SBool.mk (fun h => ?_) (fun h => ?_) <;> conv => whnf)
    | (refine SEx.mk _ (by first | exact rfl | exact ⟨of_decide_eq_true rfl, rfl⟩) ?_; conv => whnf)
    | (refine SAll.mk (fun _ => ?_); conv => whnf)
    | (refine SAnd.mk ⟨by intro c hc; simp at hc; first | (subst hc; rfl) | ((repeat' (rcases hc with rfl | hc)) <;> first | rfl | (subst hc; rfl)), by (simp; first | done | omega), by (simp; first | done | omega)⟩ ?_; conv => whnf)
    | (refine SAnd.mk (by first | exact rfl | kernel_rfl | omega | decide) ?_; conv => whnf)
    | fail)
  · refine ⟨PLe.of_eq ?_⟩
    rw [e0]
    have e1 : wrapK IntKind.i64 (n.tdiv d - 1) = n.tdiv d - 1 := wrap_id (by omega) (by omega)
    rw [e1]
    have h1 : n.tmod d < 0 := h
    have h2 := Int.tmod_def n d
    have h3 := Int.lt_tmod_of_pos n hd
    have : n / d = n.tdiv d - 1 := by
      rw [Int.ediv_eq_iff_of_pos hd]
      constructor
      · rw [Int.sub_mul, Int.mul_comm]; omega
      · rw [Int.sub_mul, Int.one_mul, Int.mul_comm]; omega
    rw [this]
  · refine ⟨PLe.of_eq ?_⟩
    rw [e0]
    have h1 : ¬ n.tmod d < 0 := h
    have h2 := Int.tmod_def n d
    have h3 := Int.tmod_lt_of_pos n hd
    have : n / d = n.tdiv d := by
      rw [Int.ediv_eq_iff_of_pos hd]
      constructor
      · rw [Int.mul_comm]; omega
      · rw [Int.mul_comm]; omega
    rw [this]

def shownI (r : Rx) (num den : Int) : Int := max (0 - r.full) (min r.full ((2 * num * r.scale + den) / (2 * den)))
theorem shown_pure (r : Rx) (h : RxOk r) (num den : Int) (hn : num.natAbs ≤ 1000000000000) (hd : 0 < den) (hd2 : den ≤ 1000000000000) : APure C 125 [.agg (xc r), I num, I den] (I (shownI r num den)) := by
  have hs := h.s; have hf := h.f
  have e1 : wrapK IntKind.i64 (2 * num) = 2 * num := w64 (by omega)
  have hb : (2 * num * r.scale).natAbs ≤ 2000000000000 * 1000 := by rw [Int.natAbs_mul]; exact Nat.mul_le_mul (by omega) (by omega)
  have e2 : wrapK IntKind.i64 (2 * num * r.scale) = 2 * num * r.scale := w64 (by omega)
  have e3 : wrapK IntKind.i64 (2 * num * r.scale + den) = 2 * num * r.scale + den := w64 (by omega)
  have e4 : wrapK IntKind.i64 (2 * den) = 2 * den := w64 (by omega)
  have e5 : wrapK IntKind.i64 (0 - r.full) = 0 - r.full := w64 (by omega)
  refine APure.of_body good [] (fn := Tryz.f125) (by kernel_rfl) (by kernel_rfl) rfl rfl (by kernel_rfl) rfl (by kernel_rfl) ?_
  conv => whnf
  repeat' (first
    | (refine codeK_sound good (mu := []) ?_; conv => whnf)
    | ((first | rw [wl0] | rw [wl1] | rw [wl2] | rw [wl3] | rw [wl4] | rw [wl5]); conv => whnf)
    | (refine SBool.mk (fun _ => ?_) (fun h => absurd (of_decide_eq_true rfl) h); conv => whnf)
    | (refine SBool.mk (fun h => absurd h (of_decide_eq_false rfl)) (fun _ => ?_); conv => whnf)
    | (refine SBool.mk (fun h => ?_) (fun h => ?_) <;> conv => whnf)
    | (refine SEx.mk _ (by first | exact rfl | exact ⟨of_decide_eq_true rfl, rfl⟩) ?_; conv => whnf)
    | (refine SAll.mk (fun _ => ?_); conv => whnf)
    | (refine SAnd.mk ⟨by intro c hc; simp at hc; first | (subst hc; rfl) | ((repeat' (rcases hc with rfl | hc)) <;> first | rfl | (subst hc; rfl)), by (simp; first | done | omega), by (simp; first | done | omega)⟩ ?_; conv => whnf)
    | (refine SAnd.mk (by first | exact rfl | kernel_rfl | omega | decide) ?_; conv => whnf)
    | fail)
  rw [e1, e2, e3, e4]
  conv => whnf
  repeat' (first
    | (refine codeK_sound good (mu := []) ?_; conv => whnf)
    | ((first | rw [wl0] | rw [wl1] | rw [wl2] | rw [wl3] | rw [wl4] | rw [wl5]); conv => whnf)
    | (refine SBool.mk (fun _ => ?_) (fun h => absurd (of_decide_eq_true rfl) h); conv => whnf)
    | (refine SBool.mk (fun h => absurd h (of_decide_eq_false rfl)) (fun _ => ?_); conv => whnf)
    | (refine SBool.mk (fun h => ?_) (fun h => ?_) <;> conv => whnf)
    | (refine SEx.mk _ (by first | exact floor_pure _ _ (by omega) (by omega)) ?_; conv => whnf)
    | (refine SEx.mk _ (by first | exact rfl | exact ⟨of_decide_eq_true rfl, rfl⟩) ?_; conv => whnf)
    | (refine SAll.mk (fun _ => ?_); conv => whnf)
    | (refine SAnd.mk ⟨by intro c hc; simp at hc; first | (subst hc; rfl) | ((repeat' (rcases hc with rfl | hc)) <;> first | rfl | (subst hc; rfl)), by (simp; first | done | omega), by (simp; first | done | omega)⟩ ?_; conv => whnf)
    | (refine SAnd.mk (by first | exact rfl | kernel_rfl | omega | decide | exact floor_pure _ _ (by omega) (by omega)) ?_; conv => whnf)
    | fail)
  exact ⟨PLe.of_eq (by rw [e5]; rfl)⟩
abbrev bWeak : ByteArray := ⟨#[119, 101, 97, 107]⟩
abbrev bDepth : ByteArray := ⟨#[100, 101, 112, 116, 104]⟩
abbrev bNone : ByteArray := ⟨#[]⟩
def flagB (r : Rx) (s : Sg) : ByteArray := if sq s.c < r.least then bWeak else if 1000 * tot s < r.lo * sq s.c ∨ r.hi * sq s.c < 1000 * tot s then bDepth else bNone
theorem flag_pure (r : Rx) (s : Sg) (hr : RxOk r) (h : Ok s) : APure C 134 [.agg (xc r), .agg (sc s)] (St (flagB r s)) := by
  have hf := h.fit.mono (n := 1000000) (by decide)
  have b1 := tot_bound h.fit; have b2 := sq_le h.fit.c; have b3 := h.sq_pos
  have l1 := hr.lo; have l2 := hr.hi
  have e1 : wrapK IntKind.i64 (1000 * tot s) = 1000 * tot s := w64 (by omega)
  have hb1 : (r.lo * sq s.c).natAbs ≤ 10000 * 200000000 := by rw [Int.natAbs_mul]; exact Nat.mul_le_mul (by omega) (by omega)
  have hb2 : (r.hi * sq s.c).natAbs ≤ 10000 * 200000000 := by rw [Int.natAbs_mul]; exact Nat.mul_le_mul (by omega) (by omega)
  have e2 : wrapK IntKind.i64 (r.lo * sq s.c) = r.lo * sq s.c := w64 (by omega)
  have e3 : wrapK IntKind.i64 (r.hi * sq s.c) = r.hi * sq s.c := w64 (by omega)
  refine APure.of_body good [] (fn := Tryz.f134) (by kernel_rfl) (by kernel_rfl) rfl rfl (by kernel_rfl) rfl (by kernel_rfl) ?_
  conv => whnf
  repeat' (first
    | (refine codeK_sound good (mu := []) ?_; conv => whnf)
    | ((first | rw [wl0] | rw [wl1] | rw [wl2] | rw [wl3] | rw [wl4] | rw [wl5]); conv => whnf)
    | (refine SBool.mk (fun _ => ?_) (fun h => absurd (of_decide_eq_true rfl) h); conv => whnf)
    | (refine SBool.mk (fun h => absurd h (of_decide_eq_false rfl)) (fun _ => ?_); conv => whnf)
    | (refine SBool.mk (fun h => ?_) (fun h => ?_) <;> conv => whnf)
    | (refine SEx.mk _ (by first | exact square_fit s.c hf.c | exact sum_pure s hf) ?_; conv => whnf)
    | (refine SEx.mk _ (by first | exact rfl | exact ⟨of_decide_eq_true rfl, rfl⟩) ?_; conv => whnf)
    | (refine SAll.mk (fun _ => ?_); conv => whnf)
    | (refine SAnd.mk ⟨by intro c hc; simp at hc; first | (subst hc; rfl) | ((repeat' (rcases hc with rfl | hc)) <;> first | rfl | (subst hc; rfl)), by (simp; first | done | omega), by (simp; first | done | omega)⟩ ?_; conv => whnf)
    | (refine SAnd.mk (by first | exact rfl | kernel_rfl | omega | decide | exact square_fit s.c hf.c | exact sum_pure s hf) ?_; conv => whnf)
    | fail)
  all_goals simp only [e1, e2, e3] at *
  all_goals exact ⟨PLe.of_eq (by simp [flagB, *])⟩
theorem toList_beq (a b : ByteArray) : (a.toList == b.toList) = decide (a = b) := by
  by_cases h : a = b
  · subst h; simp
  · have : ¬ a.toList = b.toList := fun e => h (by
      rw [ByteArray.toList_eq, ByteArray.toList_eq] at e
      obtain ⟨⟨x⟩⟩ := a
      obtain ⟨⟨y⟩⟩ := b
      simp at e
      rw [e])
    simp [h, this]
theorem neq_string (t : TypeId) (a b : ByteArray) : ∀ w, (binOp .neq t (.string a) (.string b)).run C.P w = .ok (.bool (decide (a ≠ b))) w := by
  intro w
  rw [binOp_string_neq, toList_beq]
  by_cases h : a = b <;> simp [h]
theorem eql_string (t : TypeId) (a b : ByteArray) : ∀ w, (binOp .eql t (.string a) (.string b)).run C.P w = .ok (.bool (decide (a = b))) w := by
  intro w
  rw [binOp_string_eql, toList_beq]
  rfl
def toldI (r : Rx) (s : Sg) : Int := if flagB r s = bNone then shownI r (dif s) (sq s.c) else 0
theorem told_pure (r : Rx) (s : Sg) (hr : RxOk r) (hv : Ok s) : APure C 113 [.agg (xc r), .agg (sc s)] (.tup [I (toldI r s), St (flagB r s)]) := by
  have hf := hv.fit.mono (n := 1000000) (by decide)
  have b1 := dif_bound hv.fit; have b2 := sq_le hv.fit.c; have b3 := hv.sq_pos
  refine APure.of_body good [] (fn := Tryz.f113) (by kernel_rfl) (by kernel_rfl) rfl rfl (by kernel_rfl) rfl (by kernel_rfl) ?_
  conv => whnf
  repeat' (first
    | (refine codeK_sound good (mu := []) ?_; conv => whnf)
    | ((first | rw [wl0] | rw [wl1] | rw [wl2] | rw [wl3] | rw [wl4] | rw [wl5]); conv => whnf)
    | (refine SBool.mk (fun _ => ?_) (fun h => absurd (of_decide_eq_true rfl) h); conv => whnf)
    | (refine SBool.mk (fun h => absurd h (of_decide_eq_false rfl)) (fun _ => ?_); conv => whnf)
    | (refine SBool.mk (fun h => ?_) (fun h => ?_) <;> conv => whnf)
    | (refine SEx.mk _ (by first | exact flag_pure r s hr hv | exact neq_string _ _ _ | exact difference_pure s hf | exact square_fit s.c hf.c | exact shown_pure r hr _ _ (by omega) hv.sq_pos (by omega)) ?_; conv => whnf)
    | (refine SEx.mk _ (by first | exact rfl | exact ⟨of_decide_eq_true rfl, rfl⟩) ?_; conv => whnf)
    | (refine SAll.mk (fun _ => ?_); conv => whnf)
    | (refine SAnd.mk ⟨by intro c hc; simp at hc; first | (subst hc; rfl) | ((repeat' (rcases hc with rfl | hc)) <;> first | rfl | (subst hc; rfl)), by (simp; first | done | omega), by (simp; first | done | omega)⟩ ?_; conv => whnf)
    | (refine SAnd.mk (by first | exact rfl | kernel_rfl | omega | decide | exact flag_pure r s hr hv | exact neq_string _ _ _ | exact difference_pure s hf | exact square_fit s.c hf.c | exact shown_pure r hr _ _ (by omega) hv.sq_pos (by omega)) ?_; conv => whnf)
    | fail)
  all_goals rw [decide_eq_true_eq] at h
  · exact ⟨PLe.of_eq (by unfold toldI; rw [if_neg h])⟩
  · have h0 : flagB r s = bNone := Classical.byContradiction h
    exact ⟨PLe.of_eq (by unfold toldI; rw [if_pos h0, h0])⟩
def toldE (r : Rx) (s : Sg) : Int := firstOf [rxE r, checkE s]
theorem toldE_zero {r : Rx} {s : Sg} : toldE r s = 0 ↔ RxOk r ∧ Ok s := by
  unfold toldE
  rw [firstOf_zero, firstOf_zero, rxE_zero, checkE_zero]
  exact ⟨fun ⟨h1, h2, _⟩ => ⟨h1, h2⟩, fun h => ⟨h.1, h.2, rfl⟩⟩
theorem Told_pure (r : Rx) (s : Sg) : APure C 39 [.agg (xc r), .agg (sc s)] (.tup [I (if toldE r s = 0 then toldI r s else 0), St (if toldE r s = 0 then flagB r s else bNone), I (toldE r s)]) := by
  refine APure.of_body good [] (fn := Tryz.f39) (by kernel_rfl) (by kernel_rfl) rfl rfl (by kernel_rfl) rfl (by kernel_rfl) ?_
  conv => whnf
  repeat' (first
    | (refine codeK_sound good (mu := []) ?_; conv => whnf)
    | ((first | rw [wl0] | rw [wl1] | rw [wl2] | rw [wl3] | rw [wl4] | rw [wl5]); conv => whnf)
    | (refine SBool.mk (fun _ => ?_) (fun h => absurd (of_decide_eq_true rfl) h); conv => whnf)
    | (refine SBool.mk (fun h => absurd h (of_decide_eq_false rfl)) (fun _ => ?_); conv => whnf)
    | (refine SBool.mk (fun h => ?_) (fun h => ?_) <;> conv => whnf)
    | (refine SEx.mk _ (by first | exact CheckReceiver_pure r | exact CheckSignal_pure s | exact first2_pure _ _) ?_; conv => whnf)
    | (refine SEx.mk _ (by first | exact rfl | exact ⟨of_decide_eq_true rfl, rfl⟩) ?_; conv => whnf)
    | (refine SAll.mk (fun _ => ?_); conv => whnf)
    | (refine SAnd.mk ⟨by intro c hc; simp at hc; first | (subst hc; rfl) | ((repeat' (rcases hc with rfl | hc)) <;> first | rfl | (subst hc; rfl)), by (simp; first | done | omega), by (simp; first | done | omega)⟩ ?_; conv => whnf)
    | (refine SAnd.mk (by first | exact rfl | kernel_rfl | omega | decide | exact CheckReceiver_pure r | exact CheckSignal_pure s | exact first2_pure _ _) ?_; conv => whnf)
    | fail)
  · have h0 : toldE r s = 0 := h
    have h' := toldE_zero.1 h0
    conv => whnf
    repeat' (first
      | (refine codeK_sound good (mu := []) ?_; conv => whnf)
      | ((first | rw [wl0] | rw [wl1] | rw [wl2] | rw [wl3] | rw [wl4] | rw [wl5]); conv => whnf)
      | (refine SBool.mk (fun _ => ?_) (fun h => absurd (of_decide_eq_true rfl) h); conv => whnf)
      | (refine SBool.mk (fun h => absurd h (of_decide_eq_false rfl)) (fun _ => ?_); conv => whnf)
      | (refine SBool.mk (fun h => ?_) (fun h => ?_) <;> conv => whnf)
      | (refine SEx.mk _ (by first | exact told_pure r s h'.1 h'.2) ?_; conv => whnf)
      | (refine SEx.mk _ (by first | exact rfl | exact ⟨of_decide_eq_true rfl, rfl⟩) ?_; conv => whnf)
      | (refine SAll.mk (fun _ => ?_); conv => whnf)
      | (refine SAnd.mk ⟨by intro c hc; simp at hc; first | (subst hc; rfl) | ((repeat' (rcases hc with rfl | hc)) <;> first | rfl | (subst hc; rfl)), by (simp; first | done | omega), by (simp; first | done | omega)⟩ ?_; conv => whnf)
      | (refine SAnd.mk (by first | exact rfl | kernel_rfl | omega | decide | exact told_pure r s h'.1 h'.2) ?_; conv => whnf)
      | fail)
    exact ⟨PLe.of_eq (by rw [if_pos h0, if_pos h0, h0])⟩
  · have h0 : ¬ toldE r s = 0 := h
    exact ⟨PLe.of_eq (by rw [if_neg h0, if_neg h0]; rfl)⟩
end Go.Proofs.Ab.Tone
end
section
/- Lists of signals; two signals; losses and noise. -/
set_option maxRecDepth 100000
set_option linter.unusedVariables false
set_option linter.unusedSimpArgs false
namespace Go.Proofs.Ab.Tone
open Go Go.RowKit Go.Proofs.Ab
theorem firstM_pure {α : Type} (f : α → Int) (xs : List α) (hl : xs.length ≤ 1000000) : APure C 98 [.seq 1 (xs.map fun x => [I (f x)])] (I (firstOf (xs.map f))) := by
  have := first_pure (xs.map f) (by simp; omega)
  simpa [ints, List.map_map, Function.comp_def] using this
def checkL (xs : List Sg) : Int := firstOf [sizedE xs.length 256, firstOf (xs.map checkE)]
theorem checkSignals_pure (xs : List Sg) (hl : xs.length ≤ 1000000) : APure C 116 [.seq 6 (xs.map sc)] (I (checkL xs)) := by
  refine APure.of_body good [] (fn := Tryz.f116) (by kernel_rfl) (by kernel_rfl) rfl rfl (by kernel_rfl) rfl (by kernel_rfl) ?_
  conv => whnf
  repeat' (first
    | (refine codeK_sound good (mu := []) ?_; conv => whnf)
    | ((first | rw [wl0] | rw [wl1] | rw [wl2] | rw [wl3] | rw [wl4] | rw [wl5]); conv => whnf)
    | (refine SBool.mk (fun _ => ?_) (fun h => absurd (of_decide_eq_true rfl) h); conv => whnf)
    | (refine SBool.mk (fun h => absurd h (of_decide_eq_false rfl)) (fun _ => ?_); conv => whnf)
    | (refine SBool.mk (fun h => ?_) (fun h => ?_) <;> conv => whnf)
    | (refine SEx.mk _ (by first | exact sized_pure _ _ | exact mapped164_pure checkE 25 [] xs hl (fun x _ => CheckSignal_pure x) | exact firstM_pure checkE xs hl | exact first2_pure _ _) ?_; conv => whnf)
    | (refine SEx.mk _ (by first | exact rfl | exact ⟨of_decide_eq_true rfl, rfl⟩) ?_; conv => whnf)
    | (refine SAll.mk (fun _ => ?_); conv => whnf)
    | (refine SAnd.mk ⟨by intro c hc; simp at hc; first | (subst hc; rfl) | ((repeat' (rcases hc with rfl | hc)) <;> first | rfl | (subst hc; rfl)), by (simp; first | done | omega), by (simp; first | done | omega)⟩ ?_; conv => whnf)
    | (refine SAnd.mk (by first | exact rfl | kernel_rfl | omega | decide | exact sized_pure _ _ | exact mapped164_pure checkE 25 [] xs hl (fun x _ => CheckSignal_pure x) | exact firstM_pure checkE xs hl | exact first2_pure _ _) ?_; conv => whnf)
    | fail)
  exact ⟨PLe.of_eq (by simp [checkL])⟩
abbrev sc2 (a b : Sg) : List PV := [I a.c.re, I a.c.im, I a.l.re, I a.l.im, I a.h.re, I a.h.im, I b.c.re, I b.c.im, I b.l.re, I b.l.im, I b.h.re, I b.h.im]
def twoE (a b : Sg) (band : Int) : Int := firstOf [firstOf [checkE a, checkE b], within band 1000 10000]
theorem checkTwo_pure (a b : Sg) (band : Int) : APure C 121 [.agg (sc2 a b), I band] (I (twoE a b band)) := by
  refine APure.of_body good [] (fn := Tryz.f121) (by kernel_rfl) (by kernel_rfl) rfl rfl (by kernel_rfl) rfl (by kernel_rfl) ?_
  conv => whnf
  repeat' (first
    | (refine codeK_sound good (mu := []) ?_; conv => whnf)
    | ((first | rw [wl0] | rw [wl1] | rw [wl2] | rw [wl3] | rw [wl4] | rw [wl5]); conv => whnf)
    | (refine SBool.mk (fun _ => ?_) (fun h => absurd (of_decide_eq_true rfl) h); conv => whnf)
    | (refine SBool.mk (fun h => absurd h (of_decide_eq_false rfl)) (fun _ => ?_); conv => whnf)
    | (refine SBool.mk (fun h => ?_) (fun h => ?_) <;> conv => whnf)
    | (refine SEx.mk _ (by first | exact mapped164_pure checkE 25 [] [a, b] (by simp) (fun x _ => CheckSignal_pure x) | exact within_pure _ _ _ | exact first2_pure _ _) ?_; conv => whnf)
    | (refine SEx.mk _ (by first | exact rfl | exact ⟨of_decide_eq_true rfl, rfl⟩) ?_; conv => whnf)
    | (refine SAll.mk (fun _ => ?_); conv => whnf)
    | (refine SAnd.mk ⟨by intro c hc; simp at hc; first | (subst hc; rfl) | ((repeat' (rcases hc with rfl | hc)) <;> first | rfl | (subst hc; rfl)), by (simp; first | done | omega), by (simp; first | done | omega)⟩ ?_; conv => whnf)
    | (refine SAnd.mk (by first | exact rfl | kernel_rfl | omega | decide | exact mapped164_pure checkE 25 [] [a, b] (by simp) (fun x _ => CheckSignal_pure x) | exact within_pure _ _ _ | exact first2_pure _ _) ?_; conv => whnf)
    | fail)
  exact ⟨PLe.refl _⟩
theorem captured1_pure (s : Sg) (h : s.c.Fit 1000000) : APure C 165 [.agg (sc s)] (I (sq s.c)) := by
  refine APure.of_body good [] (fn := Tryz.f165) (by kernel_rfl) (by kernel_rfl) rfl rfl (by kernel_rfl) rfl (by kernel_rfl) ?_
  conv => whnf
  repeat' (first
    | (refine codeK_sound good (mu := []) ?_; conv => whnf)
    | ((first | rw [wl0] | rw [wl1] | rw [wl2] | rw [wl3] | rw [wl4] | rw [wl5]); conv => whnf)
    | (refine SBool.mk (fun _ => ?_) (fun h => absurd (of_decide_eq_true rfl) h); conv => whnf)
    | (refine SBool.mk (fun h => absurd h (of_decide_eq_false rfl)) (fun _ => ?_); conv => whnf)
    | (refine SBool.mk (fun h => ?_) (fun h => ?_) <;> conv => whnf)
    | (refine SEx.mk _ (by first | exact square_fit s.c h) ?_; conv => whnf)
    | (refine SEx.mk _ (by first | exact rfl | exact ⟨of_decide_eq_true rfl, rfl⟩) ?_; conv => whnf)
    | (refine SAll.mk (fun _ => ?_); conv => whnf)
    | (refine SAnd.mk ⟨by intro c hc; simp at hc; first | (subst hc; rfl) | ((repeat' (rcases hc with rfl | hc)) <;> first | rfl | (subst hc; rfl)), by (simp; first | done | omega), by (simp; first | done | omega)⟩ ?_; conv => whnf)
    | (refine SAnd.mk (by first | exact rfl | kernel_rfl | omega | decide | exact square_fit s.c h) ?_; conv => whnf)
    | fail)
  exact ⟨PLe.refl _⟩
def capI (a b : Sg) (band : Int) : Int := if a = b ∧ band = 1000 then 0 else if sq b.c * band ≤ sq a.c * 1000 then 0 else if sq a.c * band ≤ sq b.c * 1000 then 1 else 2
theorem sg_eq (a b : Sg) : a = b ↔ (a.c.re = b.c.re ∧ a.c.im = b.c.im) ∧ (a.l.re = b.l.re ∧ a.l.im = b.l.im) ∧ (a.h.re = b.h.re ∧ a.h.im = b.h.im) := by
  obtain ⟨⟨a1, a2⟩, ⟨a3, a4⟩, ⟨a5, a6⟩⟩ := a
  obtain ⟨⟨b1, b2⟩, ⟨b3, b4⟩, ⟨b5, b6⟩⟩ := b
  simp
theorem captured_pure (a b : Sg) (band : Int) (ha : Ok a) (hb : Ok b) (h0 : 0 ≤ band ∧ band ≤ 10000) : APure C 122 [.agg (sc2 a b), I band] (I (capI a b band)) := by
  have fa := ha.fit.c.mono (n := 1000000) (by decide); have fb := hb.fit.c.mono (n := 1000000) (by decide)
  have a1 := sq_le ha.fit.c; have a2 := ha.sq_pos; have b1 := sq_le hb.fit.c; have b2 := hb.sq_pos
  have p1 : (sq a.c * band).natAbs ≤ 200000000 * 10000 := by rw [Int.natAbs_mul]; exact Nat.mul_le_mul (by omega) (by omega)
  have p2 : (sq b.c * band).natAbs ≤ 200000000 * 10000 := by rw [Int.natAbs_mul]; exact Nat.mul_le_mul (by omega) (by omega)
  have e1 : wrapK IntKind.i64 (sq a.c * 1000) = sq a.c * 1000 := w64 (by omega)
  have e2 : wrapK IntKind.i64 (sq b.c * 1000) = sq b.c * 1000 := w64 (by omega)
  have e3 : wrapK IntKind.i64 (sq a.c * band) = sq a.c * band := w64 (by omega)
  have e4 : wrapK IntKind.i64 (sq b.c * band) = sq b.c * band := w64 (by omega)
  have hm := mapped117_pure (fun s => sq s.c) 165 [] [a, b] (by simp) (fun x hx => captured1_pure x (by simp at hx; rcases hx with rfl | rfl <;> assumption))
  refine APure.of_body good [] (fn := Tryz.f122) (by kernel_rfl) (by kernel_rfl) rfl rfl (by kernel_rfl) rfl (by kernel_rfl) ?_
  conv => whnf
  repeat' (first
    | (refine codeK_sound good (mu := []) ?_; conv => whnf)
    | ((first | rw [wl0] | rw [wl1] | rw [wl2] | rw [wl3] | rw [wl4] | rw [wl5]); conv => whnf)
    | (refine SBool.mk (fun _ => ?_) (fun h => absurd (of_decide_eq_true rfl) h); conv => whnf)
    | (refine SBool.mk (fun h => absurd h (of_decide_eq_false rfl)) (fun _ => ?_); conv => whnf)
    | (refine SBool.mk (fun h => ?_) (fun h => ?_) <;> conv => whnf)
    | refine SCode.mk (AWp.rounds 3 ?_)
    | (refine SEx.mk _ (by first | exact hm | exact eq_signal _ _ _ _ _ _ _ _ _ _ _ _) ?_; conv => whnf)
    | (refine SEx.mk _ (by first | exact rfl | exact ⟨of_decide_eq_true rfl, rfl⟩) ?_; conv => whnf)
    | (refine SAll.mk (fun _ => ?_); conv => whnf)
    | (refine SAnd.mk (by first | exact hm) ?_; conv => whnf)
    | (refine SAnd.mk ⟨by intro c hc; simp at hc; first | (subst hc; rfl) | ((repeat' (rcases hc with rfl | hc)) <;> first | rfl | (subst hc; rfl)), by (simp; first | done | omega), by (simp; first | done | omega)⟩ ?_; conv => whnf)
    | (refine SAnd.mk (by first | exact rfl | kernel_rfl | omega | decide | exact hm | exact eq_signal _ _ _ _ _ _ _ _ _ _ _ _) ?_; conv => whnf)
    | fail)
  all_goals simp only [e1, e2, e3, e4, decide_eq_true_eq] at *
  all_goals refine ⟨PLe.of_eq ?_⟩
  all_goals unfold capI
  all_goals simp only [sg_eq]
  all_goals generalize sq a.c * band = X at *
  all_goals generalize sq b.c * band = Y at *
  all_goals (repeat' split) <;> first | rfl | (exfalso; omega)
theorem twoE_zero {a b : Sg} {band : Int} : twoE a b band = 0 ↔ Ok a ∧ Ok b ∧ 1000 ≤ band ∧ band ≤ 10000 := by
  unfold twoE
  rw [firstOf_zero, firstOf_zero, firstOf_zero, firstOf_zero, checkE_zero, checkE_zero, within_zero]
  exact ⟨fun ⟨⟨h1, h2, _⟩, h3, _⟩ => ⟨h1, h2, h3⟩, fun ⟨h1, h2, h3⟩ => ⟨⟨h1, h2, rfl⟩, h3, rfl⟩⟩
theorem Captured_pure (a b : Sg) (band : Int) : APure C 47 [.agg (sc2 a b), I band] (.tup [I (if twoE a b band = 0 then capI a b band else 0), I (twoE a b band)]) := by
  refine APure.of_body good [] (fn := Tryz.f47) (by kernel_rfl) (by kernel_rfl) rfl rfl (by kernel_rfl) rfl (by kernel_rfl) ?_
  conv => whnf
  repeat' (first
    | (refine codeK_sound good (mu := []) ?_; conv => whnf)
    | ((first | rw [wl0] | rw [wl1] | rw [wl2] | rw [wl3] | rw [wl4] | rw [wl5]); conv => whnf)
    | (refine SBool.mk (fun _ => ?_) (fun h => absurd (of_decide_eq_true rfl) h); conv => whnf)
    | (refine SBool.mk (fun h => absurd h (of_decide_eq_false rfl)) (fun _ => ?_); conv => whnf)
    | (refine SBool.mk (fun h => ?_) (fun h => ?_) <;> conv => whnf)
    | (refine SEx.mk _ (by first | exact checkTwo_pure a b band) ?_; conv => whnf)
    | (refine SEx.mk _ (by first | exact rfl | exact ⟨of_decide_eq_true rfl, rfl⟩) ?_; conv => whnf)
    | (refine SAll.mk (fun _ => ?_); conv => whnf)
    | (refine SAnd.mk ⟨by intro c hc; simp at hc; first | (subst hc; rfl) | ((repeat' (rcases hc with rfl | hc)) <;> first | rfl | (subst hc; rfl)), by (simp; first | done | omega), by (simp; first | done | omega)⟩ ?_; conv => whnf)
    | (refine SAnd.mk (by first | exact rfl | kernel_rfl | omega | decide | exact checkTwo_pure a b band) ?_; conv => whnf)
    | fail)
  · have h0 : twoE a b band = 0 := h
    have h' := twoE_zero.1 h0
    conv => whnf
    repeat' (first
      | (refine codeK_sound good (mu := []) ?_; conv => whnf)
      | ((first | rw [wl0] | rw [wl1] | rw [wl2] | rw [wl3] | rw [wl4] | rw [wl5]); conv => whnf)
      | (refine SBool.mk (fun _ => ?_) (fun h => absurd (of_decide_eq_true rfl) h); conv => whnf)
      | (refine SBool.mk (fun h => absurd h (of_decide_eq_false rfl)) (fun _ => ?_); conv => whnf)
      | (refine SBool.mk (fun h => ?_) (fun h => ?_) <;> conv => whnf)
      | (refine SEx.mk _ (by first | exact captured_pure a b band h'.1 h'.2.1 ⟨by omega, by omega⟩) ?_; conv => whnf)
      | (refine SEx.mk _ (by first | exact rfl | exact ⟨of_decide_eq_true rfl, rfl⟩) ?_; conv => whnf)
      | (refine SAll.mk (fun _ => ?_); conv => whnf)
      | (refine SAnd.mk ⟨by intro c hc; simp at hc; first | (subst hc; rfl) | ((repeat' (rcases hc with rfl | hc)) <;> first | rfl | (subst hc; rfl)), by (simp; first | done | omega), by (simp; first | done | omega)⟩ ?_; conv => whnf)
      | (refine SAnd.mk (by first | exact rfl | kernel_rfl | omega | decide | exact captured_pure a b band h'.1 h'.2.1 ⟨by omega, by omega⟩) ?_; conv => whnf)
      | fail)
    exact ⟨PLe.of_eq (by rw [if_pos h0, h0])⟩
  · have h0 : ¬ twoE a b band = 0 := h
    exact ⟨PLe.of_eq (by rw [if_neg h0])⟩
theorem spread_pure (a b : Int) : APure C 126 [I a, I b] (.agg [I (min a b), I (max a b)]) := by
  refine APure.of_body good [] (fn := Tryz.f126) (by kernel_rfl) (by kernel_rfl) rfl rfl (by kernel_rfl) rfl (by kernel_rfl) ?_
  conv => whnf
  repeat' (first
    | (refine codeK_sound good (mu := []) ?_; conv => whnf)
    | ((first | rw [wl0] | rw [wl1] | rw [wl2] | rw [wl3] | rw [wl4] | rw [wl5]); conv => whnf)
    | (refine SBool.mk (fun _ => ?_) (fun h => absurd (of_decide_eq_true rfl) h); conv => whnf)
    | (refine SBool.mk (fun h => absurd h (of_decide_eq_false rfl)) (fun _ => ?_); conv => whnf)
    | (refine SBool.mk (fun h => ?_) (fun h => ?_) <;> conv => whnf)
    | (refine SEx.mk _ (by first | exact rfl | exact ⟨of_decide_eq_true rfl, rfl⟩) ?_; conv => whnf)
    | (refine SAll.mk (fun _ => ?_); conv => whnf)
    | (refine SAnd.mk ⟨by intro c hc; simp at hc; first | (subst hc; rfl) | ((repeat' (rcases hc with rfl | hc)) <;> first | rfl | (subst hc; rfl)), by (simp; first | done | omega), by (simp; first | done | omega)⟩ ?_; conv => whnf)
    | (refine SAnd.mk (by first | exact rfl | kernel_rfl | omega | decide) ?_; conv => whnf)
    | fail)
  exact ⟨PLe.refl _⟩
def leftI (r : Rx) (s : Sg) (n : Int) : Int := shownI r (dif s * (1000 - n)) (1000 * sq s.c)
theorem lost1_pure (r : Rx) (s : Sg) (n : Int) (hr : RxOk r) (hv : Ok s) (hn : 0 ≤ n ∧ n ≤ 1000) : APure C 124 [I n, .ref (xc r), .ref (sc s)] (I (leftI r s n)) := by
  have hf := hv.fit.mono (n := 1000000) (by decide)
  have b1 := dif_bound hv.fit; have b2 := sq_le hv.fit.c; have b3 := hv.sq_pos
  have e1 : wrapK IntKind.i64 (1000 - n) = 1000 - n := w64 (by omega)
  have p1 : (dif s * (1000 - n)).natAbs ≤ 400000000 * 1000 := by rw [Int.natAbs_mul]; exact Nat.mul_le_mul (by omega) (by omega)
  have e2 : wrapK IntKind.i64 (dif s * (1000 - n)) = dif s * (1000 - n) := w64 (by omega)
  have e3 : wrapK IntKind.i64 (1000 * sq s.c) = 1000 * sq s.c := w64 (by omega)
  refine APure.of_body good [] (fn := Tryz.f124) (by kernel_rfl) (by kernel_rfl) rfl rfl (by kernel_rfl) rfl (by kernel_rfl) ?_
  conv => whnf
  repeat' (first
    | (refine codeK_sound good (mu := []) ?_; conv => whnf)
    | ((first | rw [wl0] | rw [wl1] | rw [wl2] | rw [wl3] | rw [wl4] | rw [wl5]); conv => whnf)
    | (refine SBool.mk (fun _ => ?_) (fun h => absurd (of_decide_eq_true rfl) h); conv => whnf)
    | (refine SBool.mk (fun h => absurd h (of_decide_eq_false rfl)) (fun _ => ?_); conv => whnf)
    | (refine SBool.mk (fun h => ?_) (fun h => ?_) <;> conv => whnf)
    | (refine SEx.mk _ (by first | exact difference_pure s hf | exact square_fit s.c hf.c) ?_; conv => whnf)
    | (refine SEx.mk _ (by first | exact rfl | exact ⟨of_decide_eq_true rfl, rfl⟩) ?_; conv => whnf)
    | (refine SAll.mk (fun _ => ?_); conv => whnf)
    | (refine SAnd.mk ⟨by intro c hc; simp at hc; first | (subst hc; rfl) | ((repeat' (rcases hc with rfl | hc)) <;> first | rfl | (subst hc; rfl)), by (simp; first | done | omega), by (simp; first | done | omega)⟩ ?_; conv => whnf)
    | (refine SAnd.mk (by first | exact rfl | kernel_rfl | omega | decide | exact difference_pure s hf | exact square_fit s.c hf.c) ?_; conv => whnf)
    | fail)
  rw [e1, e2, e3]
  conv => whnf
  repeat' (first
    | (refine codeK_sound good (mu := []) ?_; conv => whnf)
    | ((first | rw [wl0] | rw [wl1] | rw [wl2] | rw [wl3] | rw [wl4] | rw [wl5]); conv => whnf)
    | (refine SBool.mk (fun _ => ?_) (fun h => absurd (of_decide_eq_true rfl) h); conv => whnf)
    | (refine SBool.mk (fun h => absurd h (of_decide_eq_false rfl)) (fun _ => ?_); conv => whnf)
    | (refine SBool.mk (fun h => ?_) (fun h => ?_) <;> conv => whnf)
    | (refine SEx.mk _ (by first | exact shown_pure r hr _ _ (by omega) (by omega) (by omega)) ?_; conv => whnf)
    | (refine SEx.mk _ (by first | exact rfl | exact ⟨of_decide_eq_true rfl, rfl⟩) ?_; conv => whnf)
    | (refine SAll.mk (fun _ => ?_); conv => whnf)
    | (refine SAnd.mk ⟨by intro c hc; simp at hc; first | (subst hc; rfl) | ((repeat' (rcases hc with rfl | hc)) <;> first | rfl | (subst hc; rfl)), by (simp; first | done | omega), by (simp; first | done | omega)⟩ ?_; conv => whnf)
    | (refine SAnd.mk (by first | exact rfl | kernel_rfl | omega | decide | exact shown_pure r hr _ _ (by omega) (by omega) (by omega)) ?_; conv => whnf)
    | fail)
  exact ⟨PLe.refl _⟩
def lostE (r : Rx) (s : Sg) (lo hi : Int) : Int := firstOf [rxE r, checkE s, within lo 0 1000, within hi 0 1000, ordE lo hi]
theorem lostE_zero {r : Rx} {s : Sg} {lo hi : Int} : lostE r s lo hi = 0 ↔ RxOk r ∧ Ok s ∧ (0 ≤ lo ∧ lo ≤ 1000) ∧ (0 ≤ hi ∧ hi ≤ 1000) ∧ lo ≤ hi := by
  unfold lostE
  rw [firstOf_zero, firstOf_zero, firstOf_zero, firstOf_zero, firstOf_zero, rxE_zero, checkE_zero, within_zero, within_zero, ordE_zero]
  exact ⟨fun ⟨h1, h2, h3, h4, h5, _⟩ => ⟨h1, h2, h3, h4, h5⟩, fun ⟨h1, h2, h3, h4, h5⟩ => ⟨h1, h2, h3, h4, h5, rfl⟩⟩
structure Iv where
  lo : Int
  hi : Int
  deriving DecidableEq
abbrev ic (x : Iv) : List PV := [I x.lo, I x.hi]
def lostV (r : Rx) (s : Sg) (lo hi : Int) : Iv := if lostE r s lo hi = 0 then ⟨min (leftI r s lo) (leftI r s hi), max (leftI r s lo) (leftI r s hi)⟩ else ⟨0, 0⟩
theorem Lost_pure (r : Rx) (s : Sg) (lo hi : Int) : APure C 52 [.agg (xc r), .agg (sc s), .agg [I lo, I hi]] (.tup [.agg (ic (lostV r s lo hi)), I (lostE r s lo hi)]) := by
  refine APure.of_body good [] (fn := Tryz.f52) (by kernel_rfl) (by kernel_rfl) rfl rfl (by kernel_rfl) rfl (by kernel_rfl) ?_
  conv => whnf
  repeat' (first
    | (refine codeK_sound good (mu := []) ?_; conv => whnf)
    | ((first | rw [wl0] | rw [wl1] | rw [wl2] | rw [wl3] | rw [wl4] | rw [wl5]); conv => whnf)
    | (refine SBool.mk (fun _ => ?_) (fun h => absurd (of_decide_eq_true rfl) h); conv => whnf)
    | (refine SBool.mk (fun h => absurd h (of_decide_eq_false rfl)) (fun _ => ?_); conv => whnf)
    | (refine SBool.mk (fun h => ?_) (fun h => ?_) <;> conv => whnf)
    | (refine SEx.mk _ (by first | exact CheckReceiver_pure r | exact CheckSignal_pure s | exact within_pure _ _ _ | exact when_ord lo hi (by assumption) | exact when_nord lo hi (by assumption) | exact first5_pure _ _ _ _ _) ?_; conv => whnf)
    | (refine SEx.mk _ (by first | exact rfl | exact ⟨of_decide_eq_true rfl, rfl⟩) ?_; conv => whnf)
    | (refine SAll.mk (fun _ => ?_); conv => whnf)
    | (refine SAnd.mk ⟨by intro c hc; simp at hc; first | (subst hc; rfl) | ((repeat' (rcases hc with rfl | hc)) <;> first | rfl | (subst hc; rfl)), by (simp; first | done | omega), by (simp; first | done | omega)⟩ ?_; conv => whnf)
    | (refine SAnd.mk (by first | exact rfl | kernel_rfl | omega | decide | exact CheckReceiver_pure r | exact CheckSignal_pure s | exact within_pure _ _ _ | exact when_ord lo hi (by assumption) | exact when_nord lo hi (by assumption) | exact first5_pure _ _ _ _ _) ?_; conv => whnf)
    | fail)
  all_goals rename_i h0
  all_goals first
    | have h1 : ¬ lostE r s lo hi = 0 := by assumption
      exact ⟨PLe.of_eq (by unfold lostV; rw [if_neg h1]; rfl)⟩
    | have h1 : lostE r s lo hi = 0 := by assumption
      have h' := lostE_zero.1 h1
      conv => whnf
      repeat' (first
        | (refine codeK_sound good (mu := []) ?_; conv => whnf)
        | ((first | rw [wl0] | rw [wl1] | rw [wl2] | rw [wl3] | rw [wl4] | rw [wl5]); conv => whnf)
        | (refine SBool.mk (fun _ => ?_) (fun h => absurd (of_decide_eq_true rfl) h); conv => whnf)
        | (refine SBool.mk (fun h => absurd h (of_decide_eq_false rfl)) (fun _ => ?_); conv => whnf)
        | (refine SBool.mk (fun h => ?_) (fun h => ?_) <;> conv => whnf)
        | (refine SEx.mk _ (by first | exact lost1_pure r s lo h'.1 h'.2.1 h'.2.2.1 | exact lost1_pure r s hi h'.1 h'.2.1 h'.2.2.2.1 | exact spread_pure _ _) ?_; conv => whnf)
        | (refine SEx.mk _ (by first | exact rfl | exact ⟨of_decide_eq_true rfl, rfl⟩) ?_; conv => whnf)
        | (refine SAll.mk (fun _ => ?_); conv => whnf)
        | (refine SAnd.mk ⟨by intro c hc; simp at hc; first | (subst hc; rfl) | ((repeat' (rcases hc with rfl | hc)) <;> first | rfl | (subst hc; rfl)), by (simp; first | done | omega), by (simp; first | done | omega)⟩ ?_; conv => whnf)
        | (refine SAnd.mk (by first | exact rfl | kernel_rfl | omega | decide | exact lost1_pure r s lo h'.1 h'.2.1 h'.2.2.1 | exact lost1_pure r s hi h'.1 h'.2.1 h'.2.2.2.1 | exact spread_pure _ _) ?_; conv => whnf)
        | fail)
      exact ⟨PLe.of_eq (by unfold lostV; rw [if_pos h1, h1])⟩

def mixR (a b : Sg) (band : Int) : R := if capI a b band = 2 then low (dif a + dif b) (sq a.c + sq b.c) else if capI a b band = 0 then low (dif a) (sq a.c) else low (dif b) (sq b.c)
theorem capI_or (a b : Sg) (band : Int) : capI a b band = 0 ∨ capI a b band = 1 ∨ capI a b band = 2 := by
  unfold capI
  repeat' split
  all_goals simp
theorem Mixed_pure (a b : Sg) (band : Int) : APure C 48 [.agg (sc2 a b), I band] (.tup [.agg (rc (if twoE a b band = 0 then mixR a b band else R0)), I (twoE a b band)]) := by
  refine APure.of_body good [] (fn := Tryz.f48) (by kernel_rfl) (by kernel_rfl) rfl rfl (by kernel_rfl) rfl (by kernel_rfl) ?_
  conv => whnf
  repeat' (first
    | (refine codeK_sound good (mu := []) ?_; conv => whnf)
    | ((first | rw [wl0] | rw [wl1] | rw [wl2] | rw [wl3] | rw [wl4] | rw [wl5]); conv => whnf)
    | (refine SBool.mk (fun _ => ?_) (fun h => absurd (of_decide_eq_true rfl) h); conv => whnf)
    | (refine SBool.mk (fun h => absurd h (of_decide_eq_false rfl)) (fun _ => ?_); conv => whnf)
    | (refine SBool.mk (fun h => ?_) (fun h => ?_) <;> conv => whnf)
    | (refine SEx.mk _ (by first | exact checkTwo_pure a b band) ?_; conv => whnf)
    | (refine SEx.mk _ (by first | exact rfl | exact ⟨of_decide_eq_true rfl, rfl⟩) ?_; conv => whnf)
    | (refine SAll.mk (fun _ => ?_); conv => whnf)
    | (refine SAnd.mk ⟨by intro c hc; simp at hc; first | (subst hc; rfl) | ((repeat' (rcases hc with rfl | hc)) <;> first | rfl | (subst hc; rfl)), by (simp; first | done | omega), by (simp; first | done | omega)⟩ ?_; conv => whnf)
    | (refine SAnd.mk (by first | exact rfl | kernel_rfl | omega | decide | exact checkTwo_pure a b band) ?_; conv => whnf)
    | fail)
  · have h0 : twoE a b band = 0 := h
    have h' := twoE_zero.1 h0
    have ha := h'.1
    have hb := h'.2.1
    have fa := ha.fit.mono (n := 1000000) (by decide); have fb := hb.fit.mono (n := 1000000) (by decide)
    have a1 := sq_le ha.fit.c; have a2 := ha.sq_pos; have b1 := sq_le hb.fit.c; have b2 := hb.sq_pos
    have d1 := dif_bound ha.fit; have d2 := dif_bound hb.fit
    have e1 : wrapK IntKind.i64 (dif a + dif b) = dif a + dif b := w64 (by omega)
    have e2 : wrapK IntKind.i64 (sq a.c + sq b.c) = sq a.c + sq b.c := w64 (by omega)
    rw [if_pos h0, h0]
    have hc := captured_pure a b band h'.1 h'.2.1 ⟨by omega, by omega⟩
    unfold mixR
    rcases capI_or a b band with hk | hk | hk
    · rw [hk] at hc
      rw [hk]
      conv => whnf
      repeat' (first
        | (refine codeK_sound good (mu := []) ?_; conv => whnf)
        | ((first | rw [wl0] | rw [wl1] | rw [wl2] | rw [wl3] | rw [wl4] | rw [wl5]); conv => whnf)
        | (refine SBool.mk (fun _ => ?_) (fun h => absurd (of_decide_eq_true rfl) h); conv => whnf)
        | (refine SBool.mk (fun h => absurd h (of_decide_eq_false rfl)) (fun _ => ?_); conv => whnf)
        | (refine SBool.mk (fun h => ?_) (fun h => ?_) <;> conv => whnf)
        | (refine SEx.mk _ (by first | exact hc | exact needle_pure a ha) ?_; conv => whnf)
        | (refine SEx.mk _ (by first | exact rfl | exact ⟨of_decide_eq_true rfl, rfl⟩) ?_; conv => whnf)
        | (refine SAll.mk (fun _ => ?_); conv => whnf)
        | (refine SAnd.mk (by first | exact hc) ?_; conv => whnf)
        | (refine SAnd.mk ⟨by intro c hc; simp at hc; first | (subst hc; rfl) | ((repeat' (rcases hc with rfl | hc)) <;> first | rfl | (subst hc; rfl)), by (simp; first | done | omega), by (simp; first | done | omega)⟩ ?_; conv => whnf)
        | (refine SAnd.mk (by first | exact rfl | kernel_rfl | omega | decide | exact hc | exact needle_pure a ha) ?_; conv => whnf)
        | fail)
      exact ⟨PLe.refl _⟩
    · rw [hk] at hc
      rw [hk]
      conv => whnf
      repeat' (first
        | (refine codeK_sound good (mu := []) ?_; conv => whnf)
        | ((first | rw [wl0] | rw [wl1] | rw [wl2] | rw [wl3] | rw [wl4] | rw [wl5]); conv => whnf)
        | (refine SBool.mk (fun _ => ?_) (fun h => absurd (of_decide_eq_true rfl) h); conv => whnf)
        | (refine SBool.mk (fun h => absurd h (of_decide_eq_false rfl)) (fun _ => ?_); conv => whnf)
        | (refine SBool.mk (fun h => ?_) (fun h => ?_) <;> conv => whnf)
        | (refine SEx.mk _ (by first | exact hc | exact needle_pure b hb) ?_; conv => whnf)
        | (refine SEx.mk _ (by first | exact rfl | exact ⟨of_decide_eq_true rfl, rfl⟩) ?_; conv => whnf)
        | (refine SAll.mk (fun _ => ?_); conv => whnf)
        | (refine SAnd.mk (by first | exact hc) ?_; conv => whnf)
        | (refine SAnd.mk ⟨by intro c hc; simp at hc; first | (subst hc; rfl) | ((repeat' (rcases hc with rfl | hc)) <;> first | rfl | (subst hc; rfl)), by (simp; first | done | omega), by (simp; first | done | omega)⟩ ?_; conv => whnf)
        | (refine SAnd.mk (by first | exact rfl | kernel_rfl | omega | decide | exact hc | exact needle_pure b hb) ?_; conv => whnf)
        | fail)
      exact ⟨PLe.refl _⟩
    · rw [hk] at hc
      rw [hk]
      conv => whnf
      repeat' (first
        | (refine codeK_sound good (mu := []) ?_; conv => whnf)
        | ((first | rw [wl0] | rw [wl1] | rw [wl2] | rw [wl3] | rw [wl4] | rw [wl5]); conv => whnf)
        | (refine SBool.mk (fun _ => ?_) (fun h => absurd (of_decide_eq_true rfl) h); conv => whnf)
        | (refine SBool.mk (fun h => absurd h (of_decide_eq_false rfl)) (fun _ => ?_); conv => whnf)
        | (refine SBool.mk (fun h => ?_) (fun h => ?_) <;> conv => whnf)
        | (refine SEx.mk _ (by first | exact hc | exact difference_pure a fa | exact difference_pure b fb | exact square_fit a.c fa.c | exact square_fit b.c fb.c) ?_; conv => whnf)
        | (refine SEx.mk _ (by first | exact rfl | exact ⟨of_decide_eq_true rfl, rfl⟩) ?_; conv => whnf)
        | (refine SAll.mk (fun _ => ?_); conv => whnf)
        | (refine SAnd.mk (by first | exact hc) ?_; conv => whnf)
        | (refine SAnd.mk ⟨by intro c hc; simp at hc; first | (subst hc; rfl) | ((repeat' (rcases hc with rfl | hc)) <;> first | rfl | (subst hc; rfl)), by (simp; first | done | omega), by (simp; first | done | omega)⟩ ?_; conv => whnf)
        | (refine SAnd.mk (by first | exact rfl | kernel_rfl | omega | decide | exact hc | exact difference_pure a fa | exact difference_pure b fb | exact square_fit a.c fa.c | exact square_fit b.c fb.c) ?_; conv => whnf)
        | fail)
      rw [e1, e2]
      conv => whnf
      repeat' (first
        | (refine codeK_sound good (mu := []) ?_; conv => whnf)
        | ((first | rw [wl0] | rw [wl1] | rw [wl2] | rw [wl3] | rw [wl4] | rw [wl5]); conv => whnf)
        | (refine SBool.mk (fun _ => ?_) (fun h => absurd (of_decide_eq_true rfl) h); conv => whnf)
        | (refine SBool.mk (fun h => absurd h (of_decide_eq_false rfl)) (fun _ => ?_); conv => whnf)
        | (refine SBool.mk (fun h => ?_) (fun h => ?_) <;> conv => whnf)
        | (refine SEx.mk _ (by first | exact lowest_pure _ _ (by omega) (by omega) (by omega)) ?_; conv => whnf)
        | (refine SEx.mk _ (by first | exact rfl | exact ⟨of_decide_eq_true rfl, rfl⟩) ?_; conv => whnf)
        | (refine SAll.mk (fun _ => ?_); conv => whnf)
        | (refine SAnd.mk ⟨by intro c hc; simp at hc; first | (subst hc; rfl) | ((repeat' (rcases hc with rfl | hc)) <;> first | rfl | (subst hc; rfl)), by (simp; first | done | omega), by (simp; first | done | omega)⟩ ?_; conv => whnf)
        | (refine SAnd.mk (by first | exact rfl | kernel_rfl | omega | decide | exact lowest_pure _ _ (by omega) (by omega) (by omega)) ?_; conv => whnf)
        | fail)
      exact ⟨PLe.refl _⟩
  · have h0 : ¬ twoE a b band = 0 := h
    exact ⟨PLe.of_eq (by rw [if_neg h0]; rfl)⟩
def absI (n : Int) : Int := max n (0 - n)
def byI (s : Sg) (noise : Int) : Int := 2 * noise * (absI s.c.re + absI s.c.im)
def noisyE (r : Rx) (s : Sg) (n : Int) : Int := firstOf [rxE r, checkE s, within n 0 1000]
def noisyV (r : Rx) (s : Sg) (n : Int) : Iv := if noisyE r s n = 0 then ⟨min (shownI r (dif s - byI s n) (sq s.c)) (shownI r (dif s + byI s n) (sq s.c)), max (shownI r (dif s - byI s n) (sq s.c)) (shownI r (dif s + byI s n) (sq s.c))⟩ else ⟨0, 0⟩
theorem noisyE_zero {r : Rx} {s : Sg} {n : Int} : noisyE r s n = 0 ↔ RxOk r ∧ Ok s ∧ (0 ≤ n ∧ n ≤ 1000) := by
  unfold noisyE
  rw [firstOf_zero, firstOf_zero, firstOf_zero, rxE_zero, checkE_zero, within_zero]
  exact ⟨fun ⟨h1, h2, h3, _⟩ => ⟨h1, h2, h3⟩, fun ⟨h1, h2, h3⟩ => ⟨h1, h2, h3, rfl⟩⟩
theorem Noisy_pure (r : Rx) (s : Sg) (n : Int) : APure C 53 [.agg (xc r), .agg (sc s), I n] (.tup [.agg (ic (noisyV r s n)), I (noisyE r s n)]) := by
  refine APure.of_body good [] (fn := Tryz.f53) (by kernel_rfl) (by kernel_rfl) rfl rfl (by kernel_rfl) rfl (by kernel_rfl) ?_
  conv => whnf
  repeat' (first
    | (refine codeK_sound good (mu := []) ?_; conv => whnf)
    | ((first | rw [wl0] | rw [wl1] | rw [wl2] | rw [wl3] | rw [wl4] | rw [wl5]); conv => whnf)
    | (refine SBool.mk (fun _ => ?_) (fun h => absurd (of_decide_eq_true rfl) h); conv => whnf)
    | (refine SBool.mk (fun h => absurd h (of_decide_eq_false rfl)) (fun _ => ?_); conv => whnf)
    | (refine SBool.mk (fun h => ?_) (fun h => ?_) <;> conv => whnf)
    | (refine SEx.mk _ (by first | exact CheckReceiver_pure r | exact CheckSignal_pure s | exact within_pure _ _ _ | exact first3_pure _ _ _) ?_; conv => whnf)
    | (refine SEx.mk _ (by first | exact rfl | exact ⟨of_decide_eq_true rfl, rfl⟩) ?_; conv => whnf)
    | (refine SAll.mk (fun _ => ?_); conv => whnf)
    | (refine SAnd.mk ⟨by intro c hc; simp at hc; first | (subst hc; rfl) | ((repeat' (rcases hc with rfl | hc)) <;> first | rfl | (subst hc; rfl)), by (simp; first | done | omega), by (simp; first | done | omega)⟩ ?_; conv => whnf)
    | (refine SAnd.mk (by first | exact rfl | kernel_rfl | omega | decide | exact CheckReceiver_pure r | exact CheckSignal_pure s | exact within_pure _ _ _ | exact first3_pure _ _ _) ?_; conv => whnf)
    | fail)
  · have h0 : noisyE r s n = 0 := h
    have h' := noisyE_zero.1 h0
    have hv := h'.2.1
    have hr := h'.1
    have hn := h'.2.2
    have hf := hv.fit.mono (n := 1000000) (by decide)
    have b1 := dif_bound hv.fit; have b2 := sq_le hv.fit.c; have b3 := hv.sq_pos
    have f1 := hv.fit.c.re; have f2 := hv.fit.c.im
    have e1 : wrapK IntKind.i64 (0 - s.c.re) = 0 - s.c.re := w64 (by omega)
    have e2 : wrapK IntKind.i64 (0 - s.c.im) = 0 - s.c.im := w64 (by omega)
    have g1 : (absI s.c.re).natAbs ≤ 10000 := by unfold absI; omega
    have g2 : (absI s.c.im).natAbs ≤ 10000 := by unfold absI; omega
    have e3 : wrapK IntKind.i64 (absI s.c.re + absI s.c.im) = absI s.c.re + absI s.c.im := w64 (by omega)
    have e4 : wrapK IntKind.i64 (2 * n) = 2 * n := w64 (by omega)
    have p1 : (byI s n).natAbs ≤ 2000 * 20000 := by unfold byI; rw [Int.natAbs_mul]; exact Nat.mul_le_mul (by omega) (by omega)
    have e5 : wrapK IntKind.i64 (2 * n * (absI s.c.re + absI s.c.im)) = byI s n := w64 (by show (byI s n).natAbs ≤ _; omega)
    have e6 : wrapK IntKind.i64 (dif s - byI s n) = dif s - byI s n := w64 (by omega)
    have e7 : wrapK IntKind.i64 (dif s + byI s n) = dif s + byI s n := w64 (by omega)
    conv => whnf
    repeat' (first
      | (refine codeK_sound good (mu := []) ?_; conv => whnf)
      | ((first | rw [wl0] | rw [wl1] | rw [wl2] | rw [wl3] | rw [wl4] | rw [wl5]); conv => whnf)
      | (refine SBool.mk (fun _ => ?_) (fun h => absurd (of_decide_eq_true rfl) h); conv => whnf)
      | (refine SBool.mk (fun h => absurd h (of_decide_eq_false rfl)) (fun _ => ?_); conv => whnf)
      | (refine SBool.mk (fun h => ?_) (fun h => ?_) <;> conv => whnf)
      | (refine SEx.mk _ (by first | exact difference_pure s hf | exact square_fit s.c hf.c) ?_; conv => whnf)
      | (refine SEx.mk _ (by first | exact rfl | exact ⟨of_decide_eq_true rfl, rfl⟩) ?_; conv => whnf)
      | (refine SAll.mk (fun _ => ?_); conv => whnf)
      | (refine SAnd.mk ⟨by intro c hc; simp at hc; first | (subst hc; rfl) | ((repeat' (rcases hc with rfl | hc)) <;> first | rfl | (subst hc; rfl)), by (simp; first | done | omega), by (simp; first | done | omega)⟩ ?_; conv => whnf)
      | (refine SAnd.mk (by first | exact rfl | kernel_rfl | omega | decide | exact difference_pure s hf | exact square_fit s.c hf.c) ?_; conv => whnf)
      | fail)
    rw [e1, e2, show max s.c.re (0 - s.c.re) = absI s.c.re from rfl, show max s.c.im (0 - s.c.im) = absI s.c.im from rfl, e3, e4, e5, e6]
    conv => whnf
    repeat' (first
      | (refine codeK_sound good (mu := []) ?_; conv => whnf)
      | ((first | rw [wl0] | rw [wl1] | rw [wl2] | rw [wl3] | rw [wl4] | rw [wl5]); conv => whnf)
      | (refine SBool.mk (fun _ => ?_) (fun h => absurd (of_decide_eq_true rfl) h); conv => whnf)
      | (refine SBool.mk (fun h => absurd h (of_decide_eq_false rfl)) (fun _ => ?_); conv => whnf)
      | (refine SBool.mk (fun h => ?_) (fun h => ?_) <;> conv => whnf)
      | (refine SEx.mk _ (by first | exact shown_pure r hr _ _ (by omega) (by omega) (by omega) | exact difference_pure s hf | exact square_fit s.c hf.c) ?_; conv => whnf)
      | (refine SEx.mk _ (by first | exact rfl | exact ⟨of_decide_eq_true rfl, rfl⟩) ?_; conv => whnf)
      | (refine SAll.mk (fun _ => ?_); conv => whnf)
      | (refine SAnd.mk ⟨by intro c hc; simp at hc; first | (subst hc; rfl) | ((repeat' (rcases hc with rfl | hc)) <;> first | rfl | (subst hc; rfl)), by (simp; first | done | omega), by (simp; first | done | omega)⟩ ?_; conv => whnf)
      | (refine SAnd.mk (by first | exact rfl | kernel_rfl | omega | decide | exact shown_pure r hr _ _ (by omega) (by omega) (by omega) | exact difference_pure s hf | exact square_fit s.c hf.c) ?_; conv => whnf)
      | fail)
    rw [e7]
    conv => whnf
    repeat' (first
      | (refine codeK_sound good (mu := []) ?_; conv => whnf)
      | ((first | rw [wl0] | rw [wl1] | rw [wl2] | rw [wl3] | rw [wl4] | rw [wl5]); conv => whnf)
      | (refine SBool.mk (fun _ => ?_) (fun h => absurd (of_decide_eq_true rfl) h); conv => whnf)
      | (refine SBool.mk (fun h => absurd h (of_decide_eq_false rfl)) (fun _ => ?_); conv => whnf)
      | (refine SBool.mk (fun h => ?_) (fun h => ?_) <;> conv => whnf)
      | (refine SEx.mk _ (by first | exact shown_pure r hr _ _ (by omega) (by omega) (by omega) | exact spread_pure _ _) ?_; conv => whnf)
      | (refine SEx.mk _ (by first | exact rfl | exact ⟨of_decide_eq_true rfl, rfl⟩) ?_; conv => whnf)
      | (refine SAll.mk (fun _ => ?_); conv => whnf)
      | (refine SAnd.mk ⟨by intro c hc; simp at hc; first | (subst hc; rfl) | ((repeat' (rcases hc with rfl | hc)) <;> first | rfl | (subst hc; rfl)), by (simp; first | done | omega), by (simp; first | done | omega)⟩ ?_; conv => whnf)
      | (refine SAnd.mk (by first | exact rfl | kernel_rfl | omega | decide | exact shown_pure r hr _ _ (by omega) (by omega) (by omega) | exact spread_pure _ _) ?_; conv => whnf)
      | fail)
    exact ⟨PLe.of_eq (by unfold noisyV; rw [if_pos h0, h0])⟩
  · have h0 : ¬ noisyE r s n = 0 := h
    exact ⟨PLe.of_eq (by unfold noisyV; rw [if_neg h0]; rfl)⟩
end Go.Proofs.Ab.Tone
end
section
/- The needle with a lag. -/
set_option maxRecDepth 100000
set_option linter.unusedVariables false
set_option linter.unusedSimpArgs false
namespace Go.Proofs.Ab.Tone
open Go Go.RowKit Go.Proofs.Ab
def stepN (r : Rx) (lag n : Int) (s : Sg) : Int := if flagB r s = bNone then n + (toldI r s - n) / lag else n
def needleAt (r : Rx) (lag start : Int) (xs : List Sg) (k : Nat) : Int := (xs.take k).foldl (stepN r lag) start
theorem needleAt_succ {r : Rx} {lag start : Int} {xs : List Sg} {k : Nat} (h : k < xs.length) : needleAt r lag start xs (k + 1) = stepN r lag (needleAt r lag start xs k) xs[k] := by
  unfold needleAt
  rw [List.take_succ_eq_append_getElem h, List.foldl_append]
  rfl
def followL (r : Rx) (lag start : Int) (xs : List Sg) (k : Nat) : List Int := (List.range k).map fun j => needleAt r lag start xs (j + 1)
def followE (r : Rx) (lag start : Int) (xs : List Sg) : Int := firstOf [rxE r, within lag 1 16, within start (0 - r.full) r.full, checkL xs]
def cells1 (xs : List Int) : List (List PV) := xs.map fun x => [I x]
theorem toldI_bound {r : Rx} (hr : RxOk r) (s : Sg) : -1000 ≤ toldI r s ∧ toldI r s ≤ 1000 := by
  have hf := hr.f
  unfold toldI shownI
  split <;> omega
theorem step_bound {t n lag : Int} (hl : 1 ≤ lag) (ht : -1000 ≤ t ∧ t ≤ 1000) (hn : -1000 ≤ n ∧ n ≤ 1000) : -1000 ≤ n + (t - n) / lag ∧ n + (t - n) / lag ≤ 1000 := by
  rcases Int.le_total n t with h | h
  · have h1 : 0 ≤ (t - n) / lag := Int.ediv_nonneg (by omega) (by omega)
    have h2 : (t - n) / lag ≤ t - n := Int.ediv_le_self _ (by omega)
    omega
  · have h1 : (t - n) / lag ≤ 0 := by
      have := Int.ediv_le_ediv (c := lag) (by omega) (show t - n ≤ 0 by omega)
      simpa using this
    have h2 : t - n ≤ (t - n) / lag := by
      refine (Int.le_ediv_iff_mul_le (by omega)).2 ?_
      have : (n - t) * 1 ≤ (n - t) * lag := Int.mul_le_mul_of_nonneg_left hl (by omega)
      have e : (t - n) * lag = -((n - t) * lag) := by rw [← Int.neg_mul]; congr 1; omega
      omega
    omega
theorem needle_bound {r : Rx} (hr : RxOk r) {lag start : Int} (hl : 1 ≤ lag) (hs : -1000 ≤ start ∧ start ≤ 1000) {xs : List Sg} : ∀ k, k ≤ xs.length → -1000 ≤ needleAt r lag start xs k ∧ needleAt r lag start xs k ≤ 1000
  | 0, _ => by simpa [needleAt] using hs
  | k + 1, hk => by
    have ih := needle_bound hr hl hs (xs := xs) k (by omega)
    rw [needleAt_succ (by omega)]
    unfold stepN
    split
    · exact step_bound hl (toldI_bound hr _) ih
    · exact ih
theorem followL_succ (r : Rx) (lag start : Int) (xs : List Sg) (k : Nat) : cells1 (followL r lag start xs (k + 1)) = cells1 (followL r lag start xs k) ++ [[I (needleAt r lag start xs (k + 1))]] := by
  simp [cells1, followL, List.range_succ]
theorem firstOf_checks {xs : List Sg} : firstOf (xs.map checkE) = 0 ↔ ∀ s ∈ xs, Ok s := by
  induction xs with
  | nil => simp [firstOf]
  | cons x xs ih =>
    rw [List.map_cons, firstOf_zero, ih, checkE_zero]
    simp
theorem checkL_zero {xs : List Sg} : checkL xs = 0 ↔ (xs ≠ [] ∧ xs.length ≤ 256) ∧ ∀ s ∈ xs, Ok s := by
  unfold checkL
  rw [firstOf_zero, firstOf_zero, firstOf_checks]
  have : sizedE xs.length 256 = 0 ↔ xs ≠ [] ∧ xs.length ≤ 256 := by
    unfold sizedE
    cases xs with
    | nil => simp
    | cons x xs =>
      simp only [List.length_cons]
      split
      · rename_i h; omega
      · split
        · rename_i h; simp; omega
        · rename_i h; simp; omega
  rw [this]
  exact ⟨fun ⟨h1, h2, _⟩ => ⟨h1, h2⟩, fun ⟨h1, h2⟩ => ⟨h1, h2, rfl⟩⟩
theorem followE_zero {r : Rx} {lag start : Int} {xs : List Sg} : followE r lag start xs = 0 ↔ RxOk r ∧ (1 ≤ lag ∧ lag ≤ 16) ∧ (0 - r.full ≤ start ∧ start ≤ r.full) ∧ checkL xs = 0 := by
  unfold followE
  rw [firstOf_zero, firstOf_zero, firstOf_zero, firstOf_zero, rxE_zero, within_zero, within_zero]
  exact ⟨fun ⟨h1, h2, h3, h4, _⟩ => ⟨h1, h2, h3, h4⟩, fun ⟨h1, h2, h3, h4⟩ => ⟨h1, h2, h3, h4, rfl⟩⟩
def followV (r : Rx) (lag start : Int) (xs : List Sg) : PV := if followE r lag start xs = 0 then .seq 1 (cells1 (followL r lag start xs xs.length)) else nilS
theorem Followed_pure (r : Rx) (hf : r.full.natAbs ≤ 4000000000000000000) (lag start : Int) (xs : List Sg) (hl : xs.length ≤ 1000000) :
    APure C 41 [.agg (xc r), I lag, I start, .seq 6 (xs.map sc)] (.tup [followV r lag start xs, I (followE r lag start xs)]) := by
  have e1 : wrapK IntKind.i64 (0 - r.full) = 0 - r.full := w64 (by omega)
  refine APure.of_body good [32, 33] (fn := Tryz.f41) (by kernel_rfl) (by kernel_rfl) rfl rfl (by kernel_rfl) rfl (by kernel_rfl) ?_
  conv => whnf
  repeat' (first
    | (refine codeK_sound good (mu := [32, 33]) ?_; conv => whnf)
    | ((first | rw [wl0] | rw [wl1] | rw [wl2] | rw [wl3] | rw [wl4] | rw [wl5]); conv => whnf)
    | (refine SBool.mk (fun _ => ?_) (fun h => absurd (of_decide_eq_true rfl) h); conv => whnf)
    | (refine SBool.mk (fun h => absurd h (of_decide_eq_false rfl)) (fun _ => ?_); conv => whnf)
    | (refine SBool.mk (fun h => ?_) (fun h => ?_) <;> conv => whnf)
    | (refine SEx.mk _ (by first | exact CheckReceiver_pure r | exact within_pure _ _ _ | exact checkSignals_pure xs hl) ?_; conv => whnf)
    | (refine SEx.mk _ (by first | exact rfl | exact ⟨of_decide_eq_true rfl, rfl⟩) ?_; conv => whnf)
    | (refine SAll.mk (fun _ => ?_); conv => whnf)
    | (refine SAnd.mk ⟨by intro c hc; simp at hc; first | (subst hc; rfl) | ((repeat' (rcases hc with rfl | hc)) <;> first | rfl | (subst hc; rfl)), by (simp; first | done | omega), by (simp; first | done | omega)⟩ ?_; conv => whnf)
    | (refine SAnd.mk (by first | exact rfl | kernel_rfl | omega | decide | exact CheckReceiver_pure r | exact within_pure _ _ _ | exact checkSignals_pure xs hl) ?_; conv => whnf)
    | fail)
  rw [e1]
  conv => whnf
  repeat' (first
    | (refine codeK_sound good (mu := [32, 33]) ?_; conv => whnf)
    | ((first | rw [wl0] | rw [wl1] | rw [wl2] | rw [wl3] | rw [wl4] | rw [wl5]); conv => whnf)
    | (refine SBool.mk (fun _ => ?_) (fun h => absurd (of_decide_eq_true rfl) h); conv => whnf)
    | (refine SBool.mk (fun h => absurd h (of_decide_eq_false rfl)) (fun _ => ?_); conv => whnf)
    | (refine SBool.mk (fun h => ?_) (fun h => ?_) <;> conv => whnf)
    | (refine SEx.mk _ (by first | exact first4_pure _ _ _ _ | exact within_pure _ _ _ | exact checkSignals_pure xs hl) ?_; conv => whnf)
    | (refine SEx.mk _ (by first | exact rfl | exact ⟨of_decide_eq_true rfl, rfl⟩) ?_; conv => whnf)
    | (refine SAll.mk (fun _ => ?_); conv => whnf)
    | (refine SAnd.mk ⟨by intro c hc; simp at hc; first | (subst hc; rfl) | ((repeat' (rcases hc with rfl | hc)) <;> first | rfl | (subst hc; rfl)), by (simp; first | done | omega), by (simp; first | done | omega)⟩ ?_; conv => whnf)
    | (refine SAnd.mk (by first | exact rfl | kernel_rfl | omega | decide | exact first4_pure _ _ _ _ | exact within_pure _ _ _ | exact checkSignals_pure xs hl) ?_; conv => whnf)
    | fail)
  · have h0 : followE r lag start xs = 0 := h
    obtain ⟨hr, hlag, hst, hcl⟩ := followE_zero.1 h0
    have hx := (checkL_zero.1 hcl).2
    have hfr := hr.f
    have hs : -1000 ≤ start ∧ start ≤ 1000 := by omega
    refine ACall.inline good [] (fn := Tryz.f117) (by kernel_rfl) (by kernel_rfl) rfl rfl (by kernel_rfl) rfl (by kernel_rfl) ?_
    conv => whnf
    refine ⟨AWp.loop (ι := { k : Nat // k ≤ xs.length }) (fun k => ⟨[(10, .p (I k.1)), (9, .p (I xs.length)), (8, .p (.seq 6 (xs.map sc))), (5, .own 1), (1, .clo 118 [.p (.ref (xc r)), .box 0 0, .p (.ref [I lag])])], [(0, (3, [I (needleAt r lag start xs k.1)]))], [(1, (3, 1, cells1 (followL r lag start xs k.1)))], 2, [], [], []⟩) (fun k => xs.length - k.1) ⟨0, by simp⟩ ?_ ?_⟩
    · refine SLe.row 5 3 1 ?_
      conv => whnf
      refine SLe.of [(0, 12)] [(1, 13)] rfl rfl ?_
      conv => whnf
      refine SAnd.mk (PLe.refl _) ?_
      conv => whnf
      refine SAnd.mk (PLe.of_eq (by simp)) ?_
      conv => whnf
      refine SAnd.mk (PLe.refl _) ?_
      conv => whnf
      refine SAnd.mk (PLe.refl _) ?_
      conv => whnf
      refine SAnd.mk (PLe.refl _) ?_
      conv => whnf
      refine SAnd.mk (PLeL.refl _) ?_
      conv => whnf
      refine SAnd.mk rfl ?_
      exact True.intro
    · rintro ⟨k, hk⟩
      refine codeK_sound good (mu := []) ?_
      conv => whnf
      refine SBool.mk (fun hc => ?_) (fun hc => ?_)
      · conv => whnf
        have hkl : k < xs.length := by simpa using hc
        have hnb := needle_bound hr hlag.1 hs (xs := xs) k hk
        have htb := toldI_bound hr xs[k]
        have hsb := step_bound hlag.1 htb hnb
        have w1 : wrapK IntKind.i64 (toldI r xs[k] - needleAt r lag start xs k) = toldI r xs[k] - needleAt r lag start xs k := w64 (by omega)
        have w2 : wrapK IntKind.i64 (needleAt r lag start xs k + (toldI r xs[k] - needleAt r lag start xs k) / lag) = needleAt r lag start xs k + (toldI r xs[k] - needleAt r lag start xs k) / lag := w64 (by omega)
        refine SEx.mk (sc xs[k]) (by simp [hkl]) ?_
        conv => whnf
        refine ACall.inline good [] (fn := Tryz.f118) (by kernel_rfl) (by kernel_rfl) rfl rfl (by kernel_rfl) rfl (by kernel_rfl) ?_
        conv => whnf
        repeat' (first
          | (refine codeK_sound good (mu := []) ?_; conv => whnf)
          | ((first | rw [wl0] | rw [wl1] | rw [wl2] | rw [wl3] | rw [wl4] | rw [wl5]); conv => whnf)
          | (refine SBool.mk (fun _ => ?_) (fun h => absurd (of_decide_eq_true rfl) h); conv => whnf)
          | (refine SBool.mk (fun h => absurd h (of_decide_eq_false rfl)) (fun _ => ?_); conv => whnf)
          | (refine SBool.mk (fun h => ?_) (fun h => ?_) <;> conv => whnf)
          | (refine SEx.mk _ (by first | exact told_pure r xs[k] hr (hx _ (List.getElem_mem hkl)) | exact eql_string _ _ _) ?_; conv => whnf)
          | (refine SEx.mk _ (by first | exact rfl | exact ⟨of_decide_eq_true rfl, rfl⟩) ?_; conv => whnf)
          | (refine SAll.mk (fun _ => ?_); conv => whnf)
          | (refine SAnd.mk ⟨by intro c hc; simp at hc; first | (subst hc; rfl) | ((repeat' (rcases hc with rfl | hc)) <;> first | rfl | (subst hc; rfl)), by (simp; first | done | omega), by (simp; first | done | omega)⟩ ?_; conv => whnf)
          | (refine SAnd.mk (by first | exact rfl | kernel_rfl | omega | decide | exact told_pure r xs[k] hr (hx _ (List.getElem_mem hkl)) | exact eql_string _ _ _) ?_; conv => whnf)
          | fail)
        · have hz : flagB r xs[k] = bNone := of_decide_eq_true h
          have hstep : stepN r lag (needleAt r lag start xs k) xs[k] = needleAt r lag start xs k + (toldI r xs[k] - needleAt r lag start xs k) / lag := by unfold stepN; rw [if_pos hz]
          rw [w1]
          conv => whnf
          repeat' (first
            | (refine codeK_sound good (mu := []) ?_; conv => whnf)
            | ((first | rw [wl0] | rw [wl1] | rw [wl2] | rw [wl3] | rw [wl4] | rw [wl5]); conv => whnf)
            | (refine SBool.mk (fun _ => ?_) (fun h => absurd (of_decide_eq_true rfl) h); conv => whnf)
            | (refine SBool.mk (fun h => absurd h (of_decide_eq_false rfl)) (fun _ => ?_); conv => whnf)
            | (refine SBool.mk (fun h => ?_) (fun h => ?_) <;> conv => whnf)
            | (refine SEx.mk _ (by first | exact floor_pure _ _ (by omega) (by omega)) ?_; conv => whnf)
            | (refine SEx.mk _ (by first | exact rfl | exact ⟨of_decide_eq_true rfl, rfl⟩) ?_; conv => whnf)
            | (refine SAll.mk (fun _ => ?_); conv => whnf)
            | (refine SAnd.mk ⟨by intro c hc; simp at hc; first | (subst hc; rfl) | ((repeat' (rcases hc with rfl | hc)) <;> first | rfl | (subst hc; rfl)), by (simp; first | done | omega), by (simp; first | done | omega)⟩ ?_; conv => whnf)
            | (refine SAnd.mk (by first | exact rfl | kernel_rfl | omega | decide | exact floor_pure _ _ (by omega) (by omega)) ?_; conv => whnf)
            | fail)
          rw [w2]
          refine SAnd.mk ⟨by intro c hc; simp at hc; subst hc; rfl, by simp [cells1, followL]; omega, by simp [cells1, followL]; omega⟩ ?_
          conv => whnf
          refine ⟨⟨k + 1, by omega⟩, by simp only; omega, ?_⟩
          refine SLe.of [(0, 0)] [(1, 9)] rfl rfl ?_
          conv => whnf
          refine SAnd.mk (PLe.of_eq (by simp only [wrapK]; rw [wrap_id (by omega) (by omega)]; simp)) ?_
          conv => whnf
          refine SAnd.mk (PLe.refl _) ?_
          conv => whnf
          refine SAnd.mk (PLe.refl _) ?_
          conv => whnf
          refine SAnd.mk (PLe.refl _) ?_
          conv => whnf
          refine SAnd.mk (PLe.refl _) ?_
          conv => whnf
          refine SAnd.mk (by rw [needleAt_succ hkl, hstep]; exact PLeL.refl _) ?_
          conv => whnf
          refine SAnd.mk (by rw [followL_succ, needleAt_succ hkl, hstep]) ?_
          exact True.intro
        · have hz : ¬ flagB r xs[k] = bNone := of_decide_eq_false (by simpa using h)
          have hstep : stepN r lag (needleAt r lag start xs k) xs[k] = needleAt r lag start xs k := by unfold stepN; rw [if_neg hz]
          refine SAnd.mk ⟨by intro c hc; simp at hc; subst hc; rfl, by simp [cells1, followL]; omega, by simp [cells1, followL]; omega⟩ ?_
          conv => whnf
          refine ⟨⟨k + 1, by omega⟩, by simp only; omega, ?_⟩
          refine SLe.of [(0, 0)] [(1, 3)] rfl rfl ?_
          conv => whnf
          refine SAnd.mk (PLe.of_eq (by simp only [wrapK]; rw [wrap_id (by omega) (by omega)]; simp)) ?_
          conv => whnf
          refine SAnd.mk (PLe.refl _) ?_
          conv => whnf
          refine SAnd.mk (PLe.refl _) ?_
          conv => whnf
          refine SAnd.mk (PLe.refl _) ?_
          conv => whnf
          refine SAnd.mk (PLe.refl _) ?_
          conv => whnf
          refine SAnd.mk (by rw [needleAt_succ hkl, hstep]; exact PLeL.refl _) ?_
          conv => whnf
          refine SAnd.mk (by rw [followL_succ, needleAt_succ hkl, hstep]) ?_
          exact True.intro
      · conv => whnf
        have : k = xs.length := by simp at hc; omega
        subst this
        exact ⟨PLe.of_eq (by unfold followV; rw [if_pos h0, h0])⟩
  · have h0 : ¬ followE r lag start xs = 0 := h
    exact ⟨PLe.of_eq (by unfold followV; rw [if_neg h0]; rfl)⟩
end Go.Proofs.Ab.Tone
end
section
/- More of floating point on integers: the order, the sign, the other kind; and 32 bits. -/
set_option linter.unusedVariables false
set_option linter.unusedSimpArgs false
namespace Go.Proofs.Ab
open Go Ieee
theorem compare_scale {a b a' b' P Q : Int} (hP : 0 < P) (hQ : 0 < Q) (h1 : a' * P = a * Q) (h2 : b' * P = b * Q) : compare a' b' = compare a b := by
  have lt : a' < b' ↔ a < b := by
    rw [← Int.mul_lt_mul_right hP, h1, h2, Int.mul_lt_mul_right hQ]
  have eq : a' = b' ↔ a = b := by
    constructor
    · intro e
      subst e
      exact Int.eq_of_mul_eq_mul_right (Int.ne_of_gt hQ) (h1.symm.trans h2)
    · intro e
      subst e
      exact Int.eq_of_mul_eq_mul_right (Int.ne_of_gt hP) (h1.trans h2.symm)
  simp only [compare, compareOfLessAndEq, lt, eq]
theorem DVal.order {d e : Datum} {a b : Int} (ha : DVal d a) (hb : DVal e b) : d.order e = some (compare a b) := by
  obtain ⟨s, m, i, rfl⟩ := ha.number
  obtain ⟨t, n, j, rfl⟩ := hb.number
  have hBA := ha.all (-(min i j)).toNat (by omega)
  have hBB := hb.all (-(min i j)).toNat (by omega)
  generalize hB : (-(min i j)).toNat = B at *
  have e1 : (i + (B : Int)).toNat = (i - min i j).toNat + (min i j + (B : Int)).toNat := by omega
  have e2 : (j + (B : Int)).toNat = (j - min i j).toNat + (min i j + (B : Int)).toNat := by omega
  have k1 : signed s m (i - min i j).toNat * 2 ^ (min i j + (B : Int)).toNat = a * 2 ^ B := by
    rw [← hBA, e1, signed_eq, signed_eq, Int.pow_add]; simp [Int.mul_assoc]
  have k2 : signed t n (j - min i j).toNat * 2 ^ (min i j + (B : Int)).toNat = b * 2 ^ B := by
    rw [← hBB, e2, signed_eq, signed_eq, Int.pow_add]; simp [Int.mul_assoc]
  show some (compare _ _) = _
  rw [compare_scale (Int.pow_pos (by decide)) (Int.pow_pos (by decide)) k1 k2]
theorem FInt.order {k : FloatKind} {x y : Nat} {a b : Int} (hx : FInt k x a) (hy : FInt k y b) : k.format.order x y = some (compare a b) := DVal.order hx hy
theorem FInt.neg {k : FloatKind} {x : Nat} {n : Int} (hx : FInt k x n) : FInt k (Op.negFloat k x) (-n) := by
  have hr : ∀ f : Format, f.read (x ^^^ 2 ^ (f.exponentBits + f.fractionBits)) = (f.read x).opposite := by
    intro f
    have h1 : (x ^^^ 2 ^ (f.exponentBits + f.fractionBits)) % 2 ^ (f.exponentBits + f.fractionBits) = x % 2 ^ (f.exponentBits + f.fractionBits) := by
      rw [Nat.xor_mod_two_pow]; simp
    have h2 : ((x ^^^ 2 ^ (f.exponentBits + f.fractionBits)) / 2 ^ (f.exponentBits + f.fractionBits) % 2 == 1) = !(x / 2 ^ (f.exponentBits + f.fractionBits) % 2 == 1) := by
      rw [Nat.xor_div_two_pow, Nat.div_self (Nat.pow_pos (by decide))]
      have := Nat.xor_mod_two_pow (a := x / 2 ^ (f.exponentBits + f.fractionBits)) (b := 1) (n := 1)
      simp only [Nat.pow_one] at this
      rw [this]
      rcases Nat.mod_two_eq_zero_or_one (x / 2 ^ (f.exponentBits + f.fractionBits)) with h | h <;> rw [h] <;> rfl
    unfold Format.read Format.signWeight
    simp only [h1, h2]
    repeat' split
    all_goals rfl
  have := DVal.opposite hx
  cases k
  · show DVal (single.read (x ^^^ 2 ^ (single.exponentBits + single.fractionBits))) (-n)
    rw [hr single]
    exact this
  · show DVal (double.read (x ^^^ 2 ^ (double.exponentBits + double.fractionBits))) (-n)
    rw [hr double]
    exact this
theorem FInt.ofInt32 {n : Int} (h : n.natAbs < 2 ^ 24) : FInt .f32 (floatOfInt .f32 n) n := (nearest_read fmt_single (DVal.ofInt n) h).1
/-- The same number in 64 bits. -/
theorem FInt.wide {x : Nat} {n : Int} (hx : FInt .f32 x n) (h : n.natAbs < 2 ^ 53) : ∃ r, floatToFloatBits .f32 x .f64 = some r ∧ FInt .f64 r n := by
  have hx' := hx
  obtain ⟨s, m, p, e, _⟩ := hx
  have e : FloatKind.f32.decode x = .number s m p := e
  have hv : DVal (.number s m p) n := e ▸ hx'
  refine ⟨double.write (.number s m p), ?_, FInt.write hv h⟩
  unfold floatToFloatBits
  rw [if_neg (by decide), e]
  have hw := FInt.write hv h
  have : (FloatKind.f64.decode (FloatKind.f64.encode (.number s m p))).isInfinity = false := by
    obtain ⟨s', m', p', e', _⟩ := hw
    have e' : FloatKind.f64.decode (FloatKind.f64.encode (.number s m p)) = .number s' m' p' := e'
    rw [e']
    rfl
  simp only [this]
  rfl
end Go.Proofs.Ab
end
section
/- Samples. -/
set_option maxRecDepth 100000
set_option linter.unusedVariables false
set_option linter.unusedSimpArgs false
namespace Go.Proofs.Ab.Tone
open Go Go.RowKit Go.Proofs.Ab
abbrev cf (a : G) : PV := .v (.complex .f32 (floatOfInt .f32 a.re) (floatOfInt .f32 a.im))
theorem sample_pure (a : G) : APure C 146 [.agg (gc a)] (cf a) := by
  refine APure.of_body good [] (fn := Tryz.f146) (by kernel_rfl) (by kernel_rfl) rfl rfl (by kernel_rfl) rfl (by kernel_rfl) ?_
  conv => whnf
  refine SEx.mk _ (fun w => run_convert_int_float w 3 125 .i64 .f32 a.re (by kernel_rfl) (by kernel_rfl)) ?_
  conv => whnf
  refine SEx.mk _ (fun w => run_convert_int_float w 3 125 .i64 .f32 a.im (by kernel_rfl) (by kernel_rfl)) ?_
  conv => whnf
  exact ⟨PLe.refl _⟩
def smp (s : Sg) (σ τ : Int) : G := (s.c.add (s.l.mul ⟨σ, 0⟩)).add (s.h.mul ⟨τ, 0⟩)
theorem mul_fit {a : G} {m : Nat} (h : a.Fit m) {σ : Int} (hs : σ = 1 ∨ σ = -1) : (a.mul ⟨σ, 0⟩).Fit m := by
  have e1 := h.re; have e2 := h.im
  rcases hs with rfl | rfl <;> constructor <;> simp only [G.mul] <;> omega
abbrev zc : PV := .v (.complex .f32 0 0)
def sampledV (s : Sg) : List PV := if checkE s = 0 then [cf (smp s 1 1), cf (smp s 1 (-1)), cf (smp s (-1) 1), cf (smp s (-1) (-1))] else [zc, zc, zc, zc]
structure Dv where
  q : G
  ok : Bool
def divG (a : G) (n : Int) : G := ⟨wrap64 (a.re.tdiv n), wrap64 (a.im.tdiv n)⟩
def divB (a : G) (n : Int) : Bool := decide (a.re.tmod n = 0) && decide (a.im.tmod n = 0)
theorem divided_pure (a : G) (n : Int) (hn : n ≠ 0) : APure C 154 [.agg (gc a), I n] (.tup [.agg (gc (divG a n)), Bo (divB a n)]) := by
  refine APure.of_body good [] (fn := Tryz.f154) (by kernel_rfl) (by kernel_rfl) rfl rfl (by kernel_rfl) rfl (by kernel_rfl) ?_
  conv => whnf
  repeat' (first
    | (refine codeK_sound good (mu := []) ?_; conv => whnf)
    | ((first | rw [wl0] | rw [wl1] | rw [wl2] | rw [wl3] | rw [wl4] | rw [wl5]); conv => whnf)
    | (refine SBool.mk (fun _ => ?_) (fun h => absurd (of_decide_eq_true rfl) h); conv => whnf)
    | (refine SBool.mk (fun h => absurd h (of_decide_eq_false rfl)) (fun _ => ?_); conv => whnf)
    | (refine SBool.mk (fun h => ?_) (fun h => ?_) <;> conv => whnf)
    | (refine SEx.mk _ (by first | exact rfl | exact ⟨of_decide_eq_true rfl, rfl⟩) ?_; conv => whnf)
    | (refine SAll.mk (fun _ => ?_); conv => whnf)
    | (refine SAnd.mk ⟨by intro c hc; simp at hc; first | (subst hc; rfl) | ((repeat' (rcases hc with rfl | hc)) <;> first | rfl | (subst hc; rfl)), by (simp; first | done | omega), by (simp; first | done | omega)⟩ ?_; conv => whnf)
    | (refine SAnd.mk (by first | exact rfl | kernel_rfl | omega | decide) ?_; conv => whnf)
    | fail)
  all_goals exact ⟨PLe.of_eq (by unfold divG divB; simp [*, gc, wrapK])⟩
end Go.Proofs.Ab.Tone
end
section
/- The reference's small functions. -/
set_option maxRecDepth 100000
set_option linter.unusedVariables false
set_option linter.unusedSimpArgs false
namespace Go.Proofs.Ab.Tone
open Go Go.RowKit Go.Proofs.Ab
theorem refWhen_pure (b : Bool) (n : Int) : APure C 92 [Bo b, I n] (I (if b then n else 0)) := by
  refine APure.of_body good [] (fn := Tryz.f92) (by kernel_rfl) (by kernel_rfl) rfl rfl (by kernel_rfl) rfl (by kernel_rfl) ?_
  cases b
  · conv => whnf
    exact ⟨PLe.refl _⟩
  · conv => whnf
    exact ⟨PLe.refl _⟩
theorem refZero_pure (a b : Int) : APure C 93 [.agg [I a, I b]] (Bo (decide (a = 0 ∧ b = 0))) := by
  refine APure.of_body good [] (fn := Tryz.f93) (by kernel_rfl) (by kernel_rfl) rfl rfl (by kernel_rfl) rfl (by kernel_rfl) ?_
  conv => whnf
  repeat' (first
    | (refine codeK_sound good (mu := []) ?_; conv => whnf)
    | ((first | rw [wl0] | rw [wl1] | rw [wl2] | rw [wl3] | rw [wl4] | rw [wl5]); conv => whnf)
    | (refine SBool.mk (fun _ => ?_) (fun h => absurd (of_decide_eq_true rfl) h); conv => whnf)
    | (refine SBool.mk (fun h => absurd h (of_decide_eq_false rfl)) (fun _ => ?_); conv => whnf)
    | (refine SBool.mk (fun h => ?_) (fun h => ?_) <;> conv => whnf)
    | (refine SEx.mk _ (by first | exact rfl | exact ⟨of_decide_eq_true rfl, rfl⟩) ?_; conv => whnf)
    | (refine SAll.mk (fun _ => ?_); conv => whnf)
    | (refine SAnd.mk ⟨by intro c hc; simp at hc; first | (subst hc; rfl) | ((repeat' (rcases hc with rfl | hc)) <;> first | rfl | (subst hc; rfl)), by (simp; first | done | omega), by (simp; first | done | omega)⟩ ?_; conv => whnf)
    | (refine SAnd.mk (by first | exact rfl | kernel_rfl | omega | decide) ?_; conv => whnf)
    | fail)
  all_goals exact ⟨PLe.of_eq (by simp [*])⟩
theorem refRange_pure (n a b : Int) : APure C 55 [I n, I a, I b] (I (within n a b)) := by
  refine APure.of_body good [] (fn := Tryz.f55) (by kernel_rfl) (by kernel_rfl) rfl rfl (by kernel_rfl) rfl (by kernel_rfl) ?_
  conv => whnf
  repeat' (first
    | (refine codeK_sound good (mu := []) ?_; conv => whnf)
    | ((first | rw [wl0] | rw [wl1] | rw [wl2] | rw [wl3] | rw [wl4] | rw [wl5]); conv => whnf)
    | (refine SBool.mk (fun _ => ?_) (fun h => absurd (of_decide_eq_true rfl) h); conv => whnf)
    | (refine SBool.mk (fun h => absurd h (of_decide_eq_false rfl)) (fun _ => ?_); conv => whnf)
    | (refine SBool.mk (fun h => ?_) (fun h => ?_) <;> conv => whnf)
    | (refine SEx.mk _ (by first | exact refWhen_pure _ _) ?_; conv => whnf)
    | (refine SEx.mk _ (by first | exact rfl | exact ⟨of_decide_eq_true rfl, rfl⟩) ?_; conv => whnf)
    | (refine SAll.mk (fun _ => ?_); conv => whnf)
    | (refine SAnd.mk ⟨by intro c hc; simp at hc; first | (subst hc; rfl) | ((repeat' (rcases hc with rfl | hc)) <;> first | rfl | (subst hc; rfl)), by (simp; first | done | omega), by (simp; first | done | omega)⟩ ?_; conv => whnf)
    | (refine SAnd.mk (by first | exact rfl | kernel_rfl | omega | decide | exact refWhen_pure _ _) ?_; conv => whnf)
    | fail)
  all_goals exact ⟨PLe.of_eq (by simp [within, *])⟩
end Go.Proofs.Ab.Tone
end
section
/- The reference's errors. -/
set_option maxRecDepth 100000
set_option linter.unusedVariables false
set_option linter.unusedSimpArgs false
namespace Go.Proofs.Ab.Tone
open Go Go.RowKit Go.Proofs.Ab
theorem refFirst_pure (xs : List Int) (hl : xs.length ≤ 4611686018427387904) : APure C 29 [ints xs] (I (firstOf xs)) := by
  refine APure.of_body good [] (fn := Tryz.f29) (by kernel_rfl) (by kernel_rfl) rfl rfl (by kernel_rfl) rfl (by kernel_rfl) ?_
  conv => whnf
  refine ⟨AWp.loop (ι := { k : Nat // k ≤ xs.length ∧ firstOf xs = firstOf (xs.drop k) }) (fun k => ⟨[(3, .p (I k.1)), (0, .p (ints xs))], [], [], 0, [], [], []⟩) (fun k => xs.length - k.1) ⟨0, by simp⟩ ?_ ?_⟩
  · refine SLe.of [] [] rfl rfl ?_
    conv => whnf
    repeat' (first
    | exact True.intro
    | (refine SAnd.mk (PLe.of_eq (by simp only [wrapK]; rw [wrap_id (by first | omega | (simp only; done) | (simp only; omega) | simp) (by first | omega | (simp only; done) | (simp only; omega) | simp)]; simp)) ?_; conv => whnf)
    | (refine SAnd.mk (PLe.refl _) ?_; conv => whnf)
    | (refine SAnd.mk (PLeL.refl _) ?_; conv => whnf)
    | (refine SAnd.mk (PLe.of_eq (by simp)) ?_; conv => whnf)
    | (refine SAnd.mk rfl ?_; conv => whnf)
    | (refine SAnd.mk ⟨rfl, rfl⟩ ?_; conv => whnf)
    | (refine SAnd.mk ⟨rfl, rfl, rfl⟩ ?_; conv => whnf))
  · rintro ⟨k, hk, he⟩
    refine codeK_sound good (mu := []) ?_
    conv => whnf
    refine SBool.mk (fun h => ?_) (fun h => ?_)
    · conv => whnf
      have hkl : k < xs.length := by simpa using h
      refine SEx.mk [I xs[k]] (by simp [hkl]) ?_
      conv => whnf
      refine SBool.mk (fun h0 => ?_) (fun h0 => ?_)
      · conv => whnf
        refine ⟨⟨k + 1, by omega, by rw [he, firstOf_drop hkl, if_pos h0]⟩, by simp only; omega, ?_⟩
        refine SLe.of [] [] rfl rfl ?_
        conv => whnf
        refine SAnd.mk (PLe.of_eq (by simp only [wrapK]; rw [wrap_id (by omega) (by omega)]; simp)) ?_
        conv => whnf
        refine SAnd.mk (PLe.refl _) ?_
        exact True.intro
      · conv => whnf
        refine SEx.mk [I xs[k]] (by simp [hkl]) ?_
        conv => whnf
        exact ⟨PLe.of_eq (by rw [he, firstOf_drop hkl, if_neg h0])⟩
    · conv => whnf
      have : k = xs.length := by simp at h; omega
      exact ⟨PLe.of_eq (by rw [he, this]; simp [firstOf])⟩
theorem refFirst2_pure (a b : Int) : APure C 29 [.seq 1 [[I a], [I b]]] (I (firstOf [a, b])) := refFirst_pure [a, b] (by simp)
theorem refFirst4_pure (a b c d : Int) : APure C 29 [.seq 1 [[I a], [I b], [I c], [I d]]] (I (firstOf [a, b, c, d])) := refFirst_pure [a, b, c, d] (by simp)
theorem refPart_pure (re im most : Int) : APure C 91 [.agg [I re, I im], I most] (I (partE re im most)) := by
  refine APure.of_body good [] (fn := Tryz.f91) (by kernel_rfl) (by kernel_rfl) rfl rfl (by kernel_rfl) rfl (by kernel_rfl) ?_
  conv => whnf
  repeat' (first
    | (refine codeK_sound good (mu := []) ?_; conv => whnf)
    | ((first | rw [wl0] | rw [wl1] | rw [wl2] | rw [wl3] | rw [wl4] | rw [wl5]); conv => whnf)
    | (refine SBool.mk (fun _ => ?_) (fun h => absurd (of_decide_eq_true rfl) h); conv => whnf)
    | (refine SBool.mk (fun h => absurd h (of_decide_eq_false rfl)) (fun _ => ?_); conv => whnf)
    | (refine SBool.mk (fun h => ?_) (fun h => ?_) <;> conv => whnf)
    | (refine SEx.mk _ (by first | exact refRange_pure _ _ _ | exact refFirst2_pure _ _) ?_; conv => whnf)
    | (refine SEx.mk _ (by first | exact rfl | exact ⟨of_decide_eq_true rfl, rfl⟩) ?_; conv => whnf)
    | (refine SAll.mk (fun _ => ?_); conv => whnf)
    | (refine SAnd.mk ⟨by intro c hc; simp at hc; first | (subst hc; rfl) | ((repeat' (rcases hc with rfl | hc)) <;> first | rfl | (subst hc; rfl)), by (simp; first | done | omega), by (simp; first | done | omega)⟩ ?_; conv => whnf)
    | (refine SAnd.mk (by first | exact rfl | kernel_rfl | omega | decide | exact refRange_pure _ _ _ | exact refFirst2_pure _ _) ?_; conv => whnf)
    | fail)
  exact ⟨PLe.refl _⟩
def refCheckE (s : Sg) : Int := firstOf [partE s.c.re s.c.im 10000, partE s.l.re s.l.im 10000, partE s.h.re s.h.im 10000, zeroE s.c]
theorem refWhenZero_pure (a : G) : APure C 92 [Bo (decide (a.re = 0 ∧ a.im = 0)), I 6] (I (zeroE a)) := by
  have := refWhen_pure (decide (a.re = 0 ∧ a.im = 0)) 6
  simpa [zeroE] using this
theorem refCheckSignal_pure (s : Sg) : APure C 18 [.agg (sc s)] (I (refCheckE s)) := by
  refine APure.of_body good [] (fn := Tryz.f18) (by kernel_rfl) (by kernel_rfl) rfl rfl (by kernel_rfl) rfl (by kernel_rfl) ?_
  conv => whnf
  repeat' (first
    | (refine codeK_sound good (mu := []) ?_; conv => whnf)
    | ((first | rw [wl0] | rw [wl1] | rw [wl2] | rw [wl3] | rw [wl4] | rw [wl5]); conv => whnf)
    | (refine SBool.mk (fun _ => ?_) (fun h => absurd (of_decide_eq_true rfl) h); conv => whnf)
    | (refine SBool.mk (fun h => absurd h (of_decide_eq_false rfl)) (fun _ => ?_); conv => whnf)
    | (refine SBool.mk (fun h => ?_) (fun h => ?_) <;> conv => whnf)
    | (refine SEx.mk _ (by first | exact refPart_pure _ _ _ | exact refZero_pure _ _ | exact refWhenZero_pure s.c | exact refFirst4_pure _ _ _ _) ?_; conv => whnf)
    | (refine SEx.mk _ (by first | exact rfl | exact ⟨of_decide_eq_true rfl, rfl⟩) ?_; conv => whnf)
    | (refine SAll.mk (fun _ => ?_); conv => whnf)
    | (refine SAnd.mk ⟨by intro c hc; simp at hc; first | (subst hc; rfl) | ((repeat' (rcases hc with rfl | hc)) <;> first | rfl | (subst hc; rfl)), by (simp; first | done | omega), by (simp; first | done | omega)⟩ ?_; conv => whnf)
    | (refine SAnd.mk (by first | exact rfl | kernel_rfl | omega | decide | exact refPart_pure _ _ _ | exact refZero_pure _ _ | exact refWhenZero_pure s.c | exact refFirst4_pure _ _ _ _) ?_; conv => whnf)
    | fail)
  exact ⟨PLe.refl _⟩
end Go.Proofs.Ab.Tone
end
section
/- The reference's errors and products are the program's. -/
set_option maxRecDepth 100000
set_option linter.unusedVariables false
set_option linter.unusedSimpArgs false
namespace Go.Proofs.Ab.Tone
open Go Go.RowKit Go.Proofs.Ab
theorem within_or (n a b : Int) : within n a b = 0 ∨ within n a b = 3 := by
  unfold within
  split <;> simp
theorem partE_or (a b m : Int) : partE a b m = 0 ∨ partE a b m = 3 := by
  unfold partE
  generalize wrap64 (0 - m) = c
  rcases within_or a c m with h | h <;> rcases within_or b c m with h' | h' <;> rw [h, h'] <;> decide
theorem offE_three (a : G) : offE a 3 = partE a.re a.im 10000 := by
  unfold offE
  rcases partE_or a.re a.im 10000 with h | h <;> simp [h]
theorem firstOf_append (xs ys : List Int) : firstOf (firstOf xs :: ys) = firstOf (xs ++ ys) := by
  induction xs with
  | nil => simp [firstOf]
  | cons x xs ih =>
    by_cases h : x = 0
    · subst h
      simpa [firstOf] using ih
    · simp [firstOf, h]
theorem refCheckE_eq (s : Sg) : refCheckE s = checkE s := by
  unfold refCheckE checkE insideE
  rw [firstOf_append, offE_three, offE_three, offE_three]
  rfl
end Go.Proofs.Ab.Tone
end
section
/- The reference's ratios. -/
set_option maxRecDepth 100000
set_option linter.unusedVariables false
set_option linter.unusedSimpArgs false
namespace Go.Proofs.Ab.Tone
open Go Go.RowKit Go.Proofs.Ab
theorem refDivisor_pure (x y : Int) (hx : x.natAbs ≤ 4000000000000000000) (hy : y.natAbs ≤ 4000000000000000000) : APure C 95 [I x, I y] (I (Int.gcd x y)) := by
  refine APure.of_body good [] (fn := Tryz.f95) (by kernel_rfl) (by kernel_rfl) rfl rfl (by kernel_rfl) rfl (by kernel_rfl) ?_
  conv => whnf
  refine ⟨AWp.loop (ι := { p : Int × Int // 0 ≤ p.1 ∧ 0 ≤ p.2 ∧ p.1 ≤ 4000000000000000000 ∧ p.2 ≤ 4000000000000000000 ∧ Int.gcd p.1 p.2 = Int.gcd x y })
    (fun p => ⟨[(1, .p (I p.1.2)), (0, .p (I p.1.1))], [], [], 0, [], [], []⟩) (fun p => p.1.2.toNat) ⟨(max x (wrap64 (0 - x)), max y (wrap64 (0 - y))), ?_⟩ ?_ ?_⟩
  · rw [w64 (n := 0 - x) (by omega), w64 (n := 0 - y) (by omega)]
    refine ⟨by simp only; omega, by simp only; omega, by simp only; omega, by simp only; omega, ?_⟩
    have e1 : max x (0 - x) = (x.natAbs : Int) := by omega
    have e2 : max y (0 - y) = (y.natAbs : Int) := by omega
    simp only
    rw [e1, e2]
    unfold Int.gcd
    simp
  · refine SLe.of [] [] rfl rfl ?_
    conv => whnf
    repeat' (first
    | exact True.intro
    | (refine SAnd.mk (PLe.of_eq (by simp only [wrapK]; rw [wrap_id (by first | omega | (simp only; done) | (simp only; omega) | simp) (by first | omega | (simp only; done) | (simp only; omega) | simp)]; simp)) ?_; conv => whnf)
    | (refine SAnd.mk (PLe.refl _) ?_; conv => whnf)
    | (refine SAnd.mk (PLeL.refl _) ?_; conv => whnf)
    | (refine SAnd.mk (PLe.of_eq (by simp)) ?_; conv => whnf)
    | (refine SAnd.mk rfl ?_; conv => whnf)
    | (refine SAnd.mk ⟨rfl, rfl⟩ ?_; conv => whnf)
    | (refine SAnd.mk ⟨rfl, rfl, rfl⟩ ?_; conv => whnf))
  · rintro ⟨⟨a, b⟩, ha, hb, ham, hbm, hg⟩
    refine codeK_sound good (mu := []) ?_
    conv => whnf
    refine SBool.mk (fun h => ?_) (fun h => ?_)
    · conv => whnf
      have h0 : b = 0 := h
      simp only at ha hg
      refine ⟨PLe.of_eq ?_⟩
      have : (Int.gcd x y : Int) = a := by
        rw [← hg, h0]
        unfold Int.gcd
        simp
        omega
      rw [this]
    · conv => whnf
      have h0 : ¬ b = 0 := h
      refine SAnd.mk (by kernel_rfl) ?_
      conv => whnf
      refine SAnd.mk h0 ?_
      conv => whnf
      simp only at ha hb ham hbm hg
      have e : a.tmod b = a % b := Int.tmod_eq_emod_of_nonneg ha
      have l1 := Int.emod_nonneg a h0
      have l2 := Int.emod_lt_of_pos a (by omega : 0 < b)
      refine ⟨⟨(b, a.tmod b), hb, by rw [e]; exact l1, hbm, by rw [e]; omega, by rw [← hg]; exact gcd_step a b⟩, by simp only; omega, ?_⟩
      · refine SLe.of [] [] rfl rfl ?_
        conv => whnf
        repeat' (first
        | exact True.intro
        | (refine SAnd.mk (PLe.of_eq (by simp only [wrapK]; rw [wrap_id (by first | omega | (simp only; done) | (simp only; omega) | simp) (by first | omega | (simp only; done) | (simp only; omega) | simp)]; simp)) ?_; conv => whnf)
        | (refine SAnd.mk (PLe.refl _) ?_; conv => whnf)
        | (refine SAnd.mk (PLeL.refl _) ?_; conv => whnf)
        | (refine SAnd.mk (PLe.of_eq (by simp)) ?_; conv => whnf)
        | (refine SAnd.mk rfl ?_; conv => whnf)
        | (refine SAnd.mk ⟨rfl, rfl⟩ ?_; conv => whnf)
        | (refine SAnd.mk ⟨rfl, rfl, rfl⟩ ?_; conv => whnf))
end Go.Proofs.Ab.Tone
end
section
/- The reference's sums, factors, turns. -/
set_option maxRecDepth 100000
set_option linter.unusedVariables false
set_option linter.unusedSimpArgs false
namespace Go.Proofs.Ab.Tone
open Go Go.RowKit Go.Proofs.Ab
end Go.Proofs.Ab.Tone
end
section
/- The reference's products. -/
set_option maxRecDepth 100000
set_option linter.unusedVariables false
set_option linter.unusedSimpArgs false
namespace Go.Proofs.Ab.Tone
open Go Go.RowKit Go.Proofs.Ab
end Go.Proofs.Ab.Tone
end
section
/- The reference's receivers. -/
set_option maxRecDepth 100000
set_option linter.unusedVariables false
set_option linter.unusedSimpArgs false
namespace Go.Proofs.Ab.Tone
open Go Go.RowKit Go.Proofs.Ab
end Go.Proofs.Ab.Tone
end
section
/- What the reference shows. -/
set_option maxRecDepth 100000
set_option linter.unusedVariables false
set_option linter.unusedSimpArgs false
namespace Go.Proofs.Ab.Tone
open Go Go.RowKit Go.Proofs.Ab
end Go.Proofs.Ab.Tone
end
section
/- The reference's two signals, losses and noise. -/
set_option maxRecDepth 100000
set_option linter.unusedVariables false
set_option linter.unusedSimpArgs false
namespace Go.Proofs.Ab.Tone
open Go Go.RowKit Go.Proofs.Ab
end Go.Proofs.Ab.Tone
end
section
/- The reference's intervals. -/
set_option maxRecDepth 100000
set_option linter.unusedVariables false
set_option linter.unusedSimpArgs false
namespace Go.Proofs.Ab.Tone
open Go Go.RowKit Go.Proofs.Ab
end Go.Proofs.Ab.Tone
end
section
/- The reference's noise and turns. -/
set_option maxRecDepth 100000
set_option linter.unusedVariables false
set_option linter.unusedSimpArgs false
namespace Go.Proofs.Ab.Tone
open Go Go.RowKit Go.Proofs.Ab
theorem refCompare_raw (a b c d : Int) : APure C 81 [.agg [I a, I b], .agg [I c, I d]] (I (if wrap64 (a * d) < wrap64 (c * b) then -1 else if wrap64 (c * b) < wrap64 (a * d) then 1 else 0)) := by
  refine APure.of_body good [] (fn := Tryz.f81) (by kernel_rfl) (by kernel_rfl) rfl rfl (by kernel_rfl) rfl (by kernel_rfl) ?_
  conv => whnf
  repeat' (first
    | (refine codeK_sound good (mu := []) ?_; conv => whnf)
    | ((first | rw [wl0] | rw [wl1] | rw [wl2] | rw [wl3] | rw [wl4] | rw [wl5]); conv => whnf)
    | (refine SBool.mk (fun _ => ?_) (fun h => absurd (of_decide_eq_true rfl) h); conv => whnf)
    | (refine SBool.mk (fun h => absurd h (of_decide_eq_false rfl)) (fun _ => ?_); conv => whnf)
    | (refine SBool.mk (fun h => ?_) (fun h => ?_) <;> conv => whnf)
    | (refine SEx.mk _ (by first | exact rfl | exact ⟨of_decide_eq_true rfl, rfl⟩) ?_; conv => whnf)
    | (refine SAll.mk (fun _ => ?_); conv => whnf)
    | (refine SAnd.mk ⟨by intro c hc; simp at hc; first | (subst hc; rfl) | ((repeat' (rcases hc with rfl | hc)) <;> first | rfl | (subst hc; rfl)), by (simp; first | done | omega), by (simp; first | done | omega)⟩ ?_; conv => whnf)
    | (refine SAnd.mk (by first | exact rfl | kernel_rfl | omega | decide) ?_; conv => whnf)
    | fail)
  all_goals (refine ⟨PLe.of_eq ?_⟩)
  all_goals (have h1 := h)
  all_goals (simp only [wrapK] at *)
  all_goals first | (rw [if_pos (by assumption)]) | (rw [if_neg (by assumption), if_pos (by assumption)]) | (rw [if_neg (by assumption), if_neg (by assumption)])
end Go.Proofs.Ab.Tone
end
section
/- The reference's turns. -/
set_option maxRecDepth 100000
set_option linter.unusedVariables false
set_option linter.unusedSimpArgs false
namespace Go.Proofs.Ab.Tone
open Go Go.RowKit Go.Proofs.Ab
end Go.Proofs.Ab.Tone
end
section
/- The reference's short lists, and noise. -/
set_option maxRecDepth 100000
set_option linter.unusedVariables false
set_option linter.unusedSimpArgs false
namespace Go.Proofs.Ab.Tone
open Go Go.RowKit Go.Proofs.Ab
end Go.Proofs.Ab.Tone
end
section
/- The reference's noise. -/
set_option maxRecDepth 100000
set_option linter.unusedVariables false
set_option linter.unusedSimpArgs false
namespace Go.Proofs.Ab.Tone
open Go Go.RowKit Go.Proofs.Ab
end Go.Proofs.Ab.Tone
end
section
/- The reference's receivers' errors are the program's; lags. -/
set_option maxRecDepth 100000
set_option linter.unusedVariables false
set_option linter.unusedSimpArgs false
namespace Go.Proofs.Ab.Tone
open Go Go.RowKit Go.Proofs.Ab
end Go.Proofs.Ab.Tone
end
section
/- Ranges over functions, their rounds; scopes; labels. -/
set_option linter.unusedVariables false
set_option linter.unusedSimpArgs false
namespace Go.Proofs.Ab
open Go Go.RowKit

/-! ### The statement -/
/-- A closure's captured values. -/
def clK : SV → (FuncId → List SV → Prop) → Prop
  | .clo g cs, k => capK cs fun l => k g l
  | .p (.fn g cs), k => svK cs fun l => k g l
  | _, _ => False
theorem clK_sound {x : SV} {k : FuncId → List SV → Prop} (h : clK x k) : ∃ g l, k g l ∧ ∀ {w : World} {E : Env} {u : Value}, SRep w E x u → ∃ cv : Array Value, u = .func (.func g) #[] cv ∧ SRepL w E l cv.toList := by
  unfold clK at h
  split at h
  · rename_i g cs
    refine ⟨g, _, capK_sound h, fun {w E u} hu => ?_⟩
    obtain ⟨vs, rfl, hl, hr⟩ := hu
    refine ⟨vs.toArray, rfl, by simp [hl], fun j c x hc hx => ?_⟩
    simp only [List.getElem?_map, Option.map_eq_some_iff] at hc
    obtain ⟨d, hd, rfl⟩ := hc
    exact capRep_iff.1 (hr j d x hd (by simpa using hx))
  · rename_i g cs
    refine ⟨g, _, svK_sound h, fun {w E u} hu => ?_⟩
    obtain ⟨vs, rfl, hr⟩ := fn_inv hu
    refine ⟨vs.toArray, rfl, by simp [hr.1], fun j c x hc hx => ?_⟩
    simp only [List.getElem?_map, Option.map_eq_some_iff] at hc
    obtain ⟨d, hd, rfl⟩ := hc
    exact hr.2 j d x hd (by simpa using hx)
  · exact h.elim
/-- Behind the iterator: its record tells the way on. -/
def afterK (n gd gl : Nat) (df : List Nat) (Q : Out → AS → Prop) (s : AS) : Prop := match s with
  | ⟨f, b, r, nx, sv, ob, _⟩ => lookK ob n fun x => match x with
    | .loop g st _ _ _ => SAnd (g = gl) (strikeK ob n fun ob' => match st with
      | .ready => Q .normal ⟨f, b, r, nx, sv, ob', gd :: df⟩
      | .done .ret => Q .ret ⟨f, b, r, nx, sv, ob', gd :: df⟩
      | .done (.exit i) => Q (.exit i) ⟨f, b, r, nx, sv, ob', gd :: df⟩
      | .busy => False)
    | _ => False
/-- **A RANGE OVER A FUNCTION.** -/
theorem AWp.rangeF {C : Cx} (hC : C.inR = false) {nt : Nat} {s : AS} {Q : Out → AS → Prop} {f : Operand} {ps : Array Tmp} {assign body : Code}
    (h : operK C s f fun x => clK x fun g l => ∀ (gd gl : Nat) (L : LpC), L.ps = ps → L.assign = assign → L.body = body →
      match s with | ⟨fr, b, r, nx, sv, ob, df⟩ => ACall C nt ⟨fr, b, r, nx + 2, sv, (nx + 1, .loop gl .ready nt fr L) :: (nx, .dfr gd) :: ob, df⟩ g (.p (.v (.func (.yield gl) #[] #[])) :: l) fun _ s' => afterK (nx + 1) gd gl df Q s') :
    AWp C nt (.rangeFunc f ps assign body) Q s := by
  refine ⟨fun F n hF B ok0 w0 a w E R hS hR => ?_⟩
  obtain ⟨x, h, hx⟩ := operK_sound (nt := nt) h
  obtain ⟨g, l, h, hcl⟩ := clK_sound h
  obtain ⟨cv, hg, hl⟩ := hcl (hx hS)
  have h := h w.heap.size (w.heap.size + 1) ⟨ps, assign, body⟩ rfl rfl rfl
  obtain ⟨fr, bx, rw_, nx, sv, ob, df⟩ := s
  refine wpIn_rangeFunc ?_
  intro fn hfn
  rw [hF.round hC]
  obtain ⟨W1, hW1⟩ : ∃ W1, (w.alloc (.deferred (some []))).alloc (.loop { state := .ready, pending := none, fn := fn, tmps := a.tmps, params := ps, assign := assign, body := body, defers := w.heap.size }) = W1 := ⟨_, rfl⟩
  have hS1 := hS.newOb (x := .dfr w.heap.size) (o := .deferred (some [])) rfl rfl rfl
  have hS2 := hS1.newOb (x := .loop (w.heap.size + 1) .ready nt fr ⟨ps, assign, body⟩) (o := .loop { state := .ready, pending := none, fn := fn, tmps := a.tmps, params := ps, assign := assign, body := body, defers := w.heap.size }) (by simp [Ob.blk]) rfl
    ⟨_, rfl, rfl, rfl, rfl, ⟨rfl, rfl⟩, hS.size, fun t v hv => hS1.fr t v hv⟩
  rw [hW1] at hS2
  have hb1 : Below w.heap.size w W1 := by
    rw [← hW1]; exact ((Below.refl _ w).alloc (Nat.le_refl _) _).alloc (by simp) _
  refine ⟨w.heap.size + 1, [{ target := .collected w.heap.size, args := #[] }], W1, { target := .fn (.func g) cv, args := #[.func (.yield (w.heap.size + 1)) #[] #[]] }, W1, g,
    (.func (.yield (w.heap.size + 1)) #[] #[] :: cv.toList).toArray, W1, ?_, ?_, ?_, ?_, hF.one, ?_⟩
  · rw [← hW1]; exact run_enterLoop_outer _ _ _ _ _
  · simp only [resolve, hg]
    simp [go_sem]
  · intro f' _; exact hF.fn f'
  · have e : (#[.func (.yield (w.heap.size + 1)) #[] #[]] ++ cv : Array Value) = (.func (.yield (w.heap.size + 1)) #[] #[] :: cv.toList).toArray := by simp
    simp only [invoke, Array.empty_append]
    rw [e, run_enter h.body]
  · refine (hF.calls ((h.h B ok0 w0 a W1 E _ (fun u w' => rangePost F n C.P (w.heap.size + 1) R { a with defers := [{ target := .collected w.heap.size, args := #[] }] ++ a.defers } (.returned u) w') hS2 (.cons (.v _) ?_) ?_).mono ?_))
    · refine ⟨hl.1, fun j c x hc hx => (hl.2 j c x hc hx).ext (E' := E) ⟨fun _ h => h, fun _ _ h => h, fun _ _ h => h⟩ (fun b hb => hb1.block b (hS.ok_lt b hb))⟩
    · intro v s' u w' E' hk hS' hu
      obtain ⟨f', b', r', nx', sv', ob', df'⟩ := s'
      unfold afterK at hk
      dsimp only at hk
      obtain ⟨y, hy, hk⟩ := lookK_sound hk
      split at hk
      case h_2 => exact hk.elim
      rename_i gg st nt' sn L
      obtain ⟨e, hk⟩ := hk
      subst e
      obtain ⟨ob2, hk, hst⟩ := strikeK_sound hk
      obtain ⟨_, _, z, hz, hzc, hzi⟩ := hS'.mem.ob _ _ hy
      obtain ⟨rec, hz1, g1, g2, g3, g4, g5, g6⟩ := hzi
      subst hz1
      have hz' : w'.heap[w.heap.size + 1]? = some (.loop rec) := hz
      have hnb : (LSt.eqB st .busy = true → False) → rec.state ≠ .busy := by
        intro hb
        cases st with
        | ready => rw [show rec.state = .ready from g4.1]; simp
        | busy => exact (hb rfl).elim
        | done j => rw [show rec.state = .done from g4.1]; simp
      have hset : ∀ ds, ds = (w.heap.size :: df).map (fun g => (⟨.collected g, #[]⟩ : Deferred)) → Sat C nt ⟨f', b', r', nx', sv', ob2, w.heap.size :: df⟩ B ok0 w0 { a with defers := ds } (w'.putObj (w.heap.size + 1) (.loop { rec with state := .exhausted })) E' := by
        intro ds hds
        have := hS'.setOb (x := .loop (w.heap.size + 1) st nt' sn L) (o := .loop { rec with state := .exhausted }) hy (ob' := ob2) (fun y hy => absurd rfl (hst _ y hy).2) (fun y hy => absurd rfl (hst _ y hy).2) (fun k hk y hy => (hst k y hy).1)
        exact ⟨hds, this.size, this.fr, ⟨this.mem.bx, this.mem.rw, this.mem.ob⟩, this.bb, this.br, this.rr, this.fresh, this.ok_lt, this.ok_from, this.ok_all, this.hB, this.below, this.glob, this.svs, this.od⟩
      have hds : ([{ target := .collected w.heap.size, args := #[] }] ++ a.defers : List Deferred) = (w.heap.size :: df).map (fun g => (⟨.collected g, #[]⟩ : Deferred)) := by
        have := hS.defs
        rw [this]; rfl
      have hset := hset _ hds
      cases st with
      | busy => exact hk.elim
      | ready =>
        refine ⟨_, _, run_endLoop hz' (hnb (by simp [LSt.eqB])), ?_⟩
        have e4 : rec.pending = none := g4.2
        rw [e4] at hset ⊢
        exact hR .normal _ _ _ _ hk hset
      | done j =>
        refine ⟨_, _, run_endLoop hz' (hnb (by simp [LSt.eqB])), ?_⟩
        have e4 : rec.pending = some j.code := g4.2
        rw [e4] at hset ⊢
        cases j with
        | ret => exact wpIn_ret (hR .ret _ _ _ _ hk hset)
        | exit i => exact wpIn_exit (hR (.exit i) _ _ _ _ hk hset)
    · rintro e w' ⟨u, rfl, hR⟩
      exact hR

/-! ### A round -/
/-- The parameters, set. -/
def parK (nt : Nat) : List Tmp → List SV → List (Nat × SV) → (List (Nat × SV) → Prop) → Prop
  | [], [], fr, k => k fr
  | p :: ps, x :: xs, fr, k => bif Nat.blt p nt then parK nt ps xs ((p, x) :: fr) k else False
  | _, _, _, _ => False
theorem parK_sound {nt : Nat} {w : World} {E : Env} : ∀ {ps : List Tmp} {xs : List SV} {fr : List (Nat × SV)} {k : List (Nat × SV) → Prop} {tmps : Array Value} {us : List Value}, parK nt ps xs fr k → tmps.size = nt → (∀ t v, look fr t = some v → t < nt ∧ SRep w E v (tmps.getD t undef)) → SRepL w E xs us →
    us.length = ps.length ∧ ∃ fr', k fr' ∧ ((ps.zip us).foldl (fun t (q : Tmp × Value) => t.setIfInBounds q.1 q.2) tmps).size = nt ∧ ∀ t v, look fr' t = some v → t < nt ∧ SRep w E v (((ps.zip us).foldl (fun t (q : Tmp × Value) => t.setIfInBounds q.1 q.2) tmps).getD t undef)
  | [], [], fr, k, tmps, us, h, hs, hf, hu => by
    obtain rfl := hu.unnil
    exact ⟨rfl, fr, h, hs, hf⟩
  | p :: ps, x :: xs, fr, k, tmps, us, h, hs, hf, hu => by
    obtain ⟨u, us, rfl, hu1, hu2⟩ := hu.uncons
    unfold parK at h
    cases hb : Nat.blt p nt with
    | false => rw [hb] at h; exact h.elim
    | true =>
      rw [hb] at h
      have hp : p < nt := by simpa [Nat.blt_eq] using hb
      obtain ⟨hl, fr', hk, h1, h2⟩ := parK_sound (tmps := tmps.setIfInBounds p u) h (by simp [hs]) (fun t v hv => by
        by_cases e : p = t
        · subst e
          rw [look_cons_self] at hv
          injection hv with hv
          subst hv
          exact ⟨hp, by simp [Array.getD, hs, hp]; exact hu1⟩
        · rw [look_cons_ne e] at hv
          obtain ⟨h1, h2⟩ := hf t v hv
          refine ⟨h1, ?_⟩
          have : (tmps.setIfInBounds p u).getD t undef = tmps.getD t undef := by
            simp [Array.getD, hs, h1, Array.getElem_setIfInBounds, e]
          rw [this]
          exact h2) hu2
      exact ⟨by simp [hl], fr', hk, h1, h2⟩
  | [], _ :: _, _, _, _, _, h, _, _, _ => by simp [parK] at h
  | _ :: _, [], _, _, _, _, h, _, _, _ => by simp [parK] at h
/-- The loop's record turns. -/
def turnK (n g : Nat) (st st' : LSt) (s : AS) (K : AS → Prop) : Prop := match s with
  | ⟨f, b, r, nx, sv, ob, df⟩ => lookK ob n fun x => match x with
    | .loop g' st0 nt sn L => bif LSt.eqB st0 st then SAnd (g' = g) (strikeK ob n fun ob' => K ⟨f, b, r, nx, sv, (n, .loop g' st' nt sn L) :: ob', df⟩) else False
    | _ => False
theorem turnK_sound {n g : Nat} {st st' : LSt} {s : AS} {K : AS → Prop} (h : turnK n g st st' s K) : ∃ s', K s' ∧ ∀ {C : Cx} {nt B ok0 w0 a w E}, Sat C nt s B ok0 w0 a w E → ∃ rec : Loop, w.heap[g]? = some (.loop rec) ∧ st.Is rec ∧
    ∀ rec' : Loop, rec'.params = rec.params → rec'.assign = rec.assign → rec'.body = rec.body → rec'.tmps = rec.tmps → st'.Is rec' → Sat C nt s' B ok0 w0 a (w.putObj g (.loop rec')) E := by
  obtain ⟨f, b, r, nx, sv, ob, df⟩ := s
  unfold turnK at h
  dsimp only at h
  obtain ⟨y, hy, h2⟩ := lookK_sound h
  clear h
  have h := h2
  split at h
  case h_2 => exact h.elim
  rename_i g' st0 nt' sn L
  cases hb : LSt.eqB st0 st with
  | false => rw [hb] at h; exact h.elim
  | true =>
    rw [hb] at h
    obtain rfl := LSt.eqB_eq hb
    obtain ⟨e, h⟩ := h
    have e : g' = g := e
    subst e
    obtain ⟨ob', hk, hst⟩ := strikeK_sound h
    refine ⟨_, hk, fun {C nt B ok0 w0 a w E} hS => ?_⟩
    obtain ⟨_, _, z, hz, hzc, hzi⟩ := hS.mem.ob n _ hy
    obtain ⟨rec, hz1, g1, g2, g3, g4, g5, g6⟩ := hzi
    subst hz1
    refine ⟨rec, hz, g4, fun rec' h1 h2 h3 h4 h5 => ?_⟩
    refine hS.setOb (x := .loop g' st0 nt' sn L) (o := .loop rec') hy (ob' := (n, .loop g' st' nt' sn L) :: ob') (fun y hy => by rw [look_cons_self] at hy; injection hy with hy; rw [← hy]; rfl) (fun y hy => ?_) (fun k hk y hy => ?_)
    · rw [look_cons_self] at hy
      injection hy with hy
      subst hy
      exact ⟨rfl, rec', rfl, h1.trans g1, h2.trans g2, h3.trans g3, h5, by rw [h4]; exact g5, by rw [h4]; exact g6⟩
    · rw [look_cons_ne (fun e => hk e.symm)] at hy
      exact (hst k y hy).1
/-- Back in the iterator's frame. -/
def homeK (nt : Nat) (df : List Nat) (s : AS) (K : AS → Prop) : Prop := match s with | ⟨_, b, r, n, sv, o, _⟩ => restoreK nt sv fun fr sv' => K ⟨fr, b, r, n, sv', o, df⟩
theorem SRound.of {C : Cx} (hC : C.Good) {nt : Nat} {s : AS} {g : Nat} {xs : List SV} {K : Bool → AS → Prop} (mu : List Nat) {n nt' : Nat} {sn : List (Nat × SV)} {L : LpC} {ps : List Tmp} {assign body : Code}
    (hn : look s.ob n = some (.loop g .ready nt' sn L)) (hp : L.ps = ps.toArray) (ha : L.assign = assign) (hbd : L.body = body)
    (h : match s with | ⟨fr, b, r, nx, sv, o, df⟩ => shK nt sv fun l => apL fr l fun saved => parK nt' ps xs sn fun fr0 => codeK { C with inR := true } nt' mu assign ⟨fr0, b, r, nx, saved, o, []⟩ fun e s1 => match e with
      | .normal => turnK n g .ready .busy s1 fun s2 => AWp { C with inR := true } nt' body (fun e s3 => match e with
        | .normal => turnK n g .busy .ready s3 fun s4 => homeK nt df s4 (K true)
        | .ret => turnK n g .busy (.done .ret) s3 fun s4 => homeK nt df s4 (K false)
        | .exit i => turnK n g .busy (.done (.exit i)) s3 fun s4 => homeK nt df s4 (K false)) s2
      | _ => False) : SRound C nt s g xs K := by
  refine ⟨fun F m B ok0 w0 a w E us R hFf hFd hFa hFr hS hus hR => ?_⟩
  obtain ⟨fr, b, r, nx, sv, ob, df⟩ := s
  obtain ⟨l, h, hsh⟩ := shK_sound h
  have h := apL_sound h
  have hC' : ({ C with inR := true } : Cx).Good := ⟨hC.tab, hC.mixed⟩
  obtain ⟨_, _, z, hz, hzc, hzi⟩ := hS.mem.ob n _ hn
  obtain ⟨rec, hz1, g1, g2, g3, g4, g5, g6⟩ := hzi
  subst hz1
  have hz' : w.heap[g]? = some (.loop rec) := hz
  obtain ⟨hl, fr0, h, hsz, hfr0⟩ := parK_sound (E := E) (w := w) (tmps := rec.tmps) h g5 g6 hus
  have hpz : rec.params = ps.toArray := g1.trans hp
  have hy := run_yield (P := C.P) (args := us.toArray) hz' (by rw [hpz]; simp [hl])
  refine ⟨_, _, _, _, hy, ?_⟩
  have etm : (rec.params.zip us.toArray).foldl (fun tmps (t, a) => tmps.setIfInBounds t a) rec.tmps = (ps.zip us).foldl (fun t (q : Tmp × Value) => t.setIfInBounds q.1 q.2) rec.tmps := by
    rw [hpz]; simp
  rw [etm, g2, g3, ha, hbd]
  refine roundIn_of_wpIn (hFf _) ?_
  have hFW : FW { C with inR := true } (F.inRound g) := ⟨hFf, hFd, hFa, fun h => by cases h⟩
  have hS1 : Sat { C with inR := true } nt' ⟨fr0, b, r, nx, fr ++ l, ob, []⟩ B ⟨ok0.ok, fun t => if t < nt then a.tmps.getD t undef else ok0.sv (t - nt)⟩ w0 { tmps := (ps.zip us).foldl (fun t (q : Tmp × Value) => t.setIfInBounds q.1 q.2) rec.tmps, defers := [] } w E := by
    refine ⟨rfl, hsz, hfr0, ⟨hS.mem.bx, hS.mem.rw, hS.mem.ob⟩, hS.bb, hS.br, hS.rr, hS.fresh, hS.ok_lt, hS.ok_from, hS.ok_all, hS.hB, hS.below, hS.glob, fun t v ht => ?_, hS.od⟩
    rcases look_append ht with h1 | h1
    · obtain ⟨h2, h3⟩ := hS.fr t v h1
      simp only [h2, if_true]
      exact h3
    · obtain ⟨u, rfl, hu⟩ := hsh t v h1
      have e1 : ¬ nt + u < nt := by omega
      have e2 : nt + u - nt = u := by omega
      simp only [e1, if_false, e2]
      exact hS.svs u v hu
  have home : ∀ {s4 : AS} {c : Bool} {a4 : Act} {w4 : World} {E4 : Env}, homeK nt df s4 (K c) → Sat { C with inR := true } nt' s4 B ⟨ok0.ok, fun t => if t < nt then a.tmps.getD t undef else ok0.sv (t - nt)⟩ w0 a4 w4 E4 → R (.returned (.bool c)) w4 := by
    intro s4 c a4 w4 E4 hk hS'
    obtain ⟨fr2, b2, r2, n2, sv2, ob2, df2⟩ := s4
    obtain ⟨fr', sv', hk, h1, h2⟩ := restoreK_sound hk
    refine hR c _ w4 E4 hk ?_
    refine ⟨hS.defs, hS.size, fun t v ht => ?_, ⟨hS'.mem.bx, hS'.mem.rw, hS'.mem.ob⟩, hS'.bb, hS'.br, hS'.rr, hS'.fresh, hS'.ok_lt, hS'.ok_from, hS'.ok_all, hS'.hB, hS'.below, hS'.glob, fun t v ht => ?_, hS'.od⟩
    · obtain ⟨h3, h4⟩ := h1 t v ht
      have := hS'.svs t v h4
      simp only [h3, if_true] at this
      exact ⟨h3, this⟩
    · have := hS'.svs (t + nt) v (h2 t v ht)
      have e1 : ¬ t + nt < nt := by omega
      simp only [e1, if_false, Nat.add_sub_cancel] at this
      exact this
  refine (codeK_sound hC' h).wp (F.inRound g) m hFW B _ w0 _ w E _ hS1 (fun e s1 a1 w1 E1 hq hS1 => ?_)
  cases e with
  | ret => exact hq.elim
  | exit i => exact hq.elim
  | normal =>
    obtain ⟨s2, h2, ht2⟩ := turnK_sound hq
    obtain ⟨rec1, hz1, hst1, hto⟩ := ht2 hS1
    refine ⟨_, run_beginRound hz1 hst1.1, ?_⟩
    have hS2 := hto { rec1 with state := .busy } rfl rfl rfl rfl rfl
    refine h2.wp (F.inRound g) m hFW B _ w0 _ _ E1 _ hS2 (fun e s3 a3 w3 E3 hq hS3 => ?_)
    cases e with
    | normal =>
      obtain ⟨s4, h4, ht4⟩ := turnK_sound hq
      obtain ⟨rec3, hz3, hst3, hto⟩ := ht4 hS3
      exact ⟨_, _, run_endRound none hz3, home h4 (hto { rec3 with state := .ready, pending := none } rfl rfl rfl rfl ⟨rfl, rfl⟩)⟩
    | ret =>
      obtain ⟨s4, h4, ht4⟩ := turnK_sound hq
      obtain ⟨rec3, hz3, hst3, hto⟩ := ht4 hS3
      exact ⟨_, _, run_endRound (some .ret) hz3, home h4 (hto { rec3 with state := .done, pending := some .ret } rfl rfl rfl rfl ⟨rfl, rfl⟩)⟩
    | exit i =>
      obtain ⟨s4, h4, ht4⟩ := turnK_sound hq
      obtain ⟨rec3, hz3, hst3, hto⟩ := ht4 hS3
      exact ⟨_, _, run_endRound (some (.exit i)) hz3, home h4 (hto { rec3 with state := .done, pending := some (.exit i) } rfl rfl rfl rfl ⟨rfl, rfl⟩)⟩
end Go.Proofs.Ab
end
section
/- The context of the further walks: two more globals; the map's type. -/
set_option maxRecDepth 100000
set_option linter.unusedVariables false
set_option linter.unusedSimpArgs false
namespace Go.Proofs.Ab.Tone2
open Go Go.RowKit Go.Proofs.Ab Go.Proofs.Ab.Tone
def tab2 : List (Nat × TI) := (189, ⟨.map 9 4, 1, 8, [.map none]⟩) :: tab
theorem tab2_good : checkTab Tryz.prog tab2 = true := by kernel_rfl
/-- The globals: silent; bytealg.MaxLen (whatever it holds); the powers of ten. -/
noncomputable def C (m : Int) : Cx := { P := Tryz.prog, tab := tab2, glob := [(0, [I 0, I 0]), (1, [I m])], tabs := [(2, (Lib.pow10Tab.map fun z => Value.int .u64 z).toArray)] }
theorem good {m : Int} : (C m).Good := ⟨tab2_good, by kernel_rfl⟩
theorem glob_up {m : Int} {w : World} {ok : Nat → Prop} (h2 : GlobOk (C m) w ok) : GlobOk Tone.C w ok := by
  refine ⟨fun g cs hg => h2.1 g cs ?_, fun g a hg => nomatch hg⟩
  have hg : look [(0, [I 0, I 0])] g = some cs := hg
  show look [(0, [I 0, I 0]), _] g = some cs
  by_cases e : (0 : Nat) = g
  · subst e; exact hg
  · rw [look_cons_ne e] at hg; cases hg
theorem up {m : Int} {f : FuncId} {xs : List PV} {v : PV} (h : APure Tone.C f xs v) : APure (C m) f xs v :=
  ⟨h.1, fun w ok us h1 h2 h3 => h.2 w ok us h1 (glob_up h2) h3⟩
end Go.Proofs.Ab.Tone2
end
