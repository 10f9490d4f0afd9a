/- The proof of ToneAgrees (see the last theorem): for every input that can be read the law returns true; the listed package-level variables are as the program's text lays them. -/
import Derived.Test.YtkphoimochkndaaGreatDoorLToneAgrees1
section
/- The law of what agrees: two signals. -/
set_option maxRecDepth 100000
set_option linter.unusedVariables false
set_option linter.unusedSimpArgs false
namespace Go.Proofs.Ab.Tone2
open Go Go.RowKit Go.Proofs.Ab Go.Proofs.Ab.Tone
theorem tmod_pos9 {x k : Int} (hx : 0 ≤ x) (hk : 0 < k) : 0 ≤ x.tmod k ∧ x.tmod k < k := ⟨Int.tmod_nonneg _ hx, Int.tmod_lt_of_pos x hk⟩
theorem cmp3_of {A B C' D P Q : Int} (hP : 0 < P) (hQ : 0 < Q) (h1 : A * P = C' * Q) (h2 : B * P = D * Q) : cmp3 A B = cmp3 C' D := by
  have e1 : A < B ↔ C' < D := by
    refine Iff.trans (Int.mul_lt_mul_right hP).symm (Iff.trans ?_ (Int.mul_lt_mul_right hQ))
    rw [h1, h2]
  have e2 : B < A ↔ D < C' := by
    refine Iff.trans (Int.mul_lt_mul_right hP).symm (Iff.trans ?_ (Int.mul_lt_mul_right hQ))
    rw [h1, h2]
  unfold cmp3
  simp only [e1, e2]
theorem cmp_low {n d n' d' : Int} (hd : 0 < d) (hd' : 0 < d') : cmp3 ((low n d).num * (low n' d').den) ((low n' d').num * (low n d).den) = cmp3 (n * d') (n' * d) := by
  have h1 := isLow (n := n) hd
  have h2 := isLow (n := n') hd'
  refine cmp3_of (P := d * d') (Q := (low n d).den * (low n' d').den) (Int.mul_pos hd hd') (Int.mul_pos h1.den h2.den) ?_ ?_
  · have e1 := h1.eq; have e2 := h2.eq
    generalize (low n d).num = x at *; generalize (low n d).den = y at *; generalize (low n' d').den = y' at *
    grind
  · have e1 := h1.eq; have e2 := h2.eq
    generalize (low n' d').num = x' at *; generalize (low n d).den = y at *; generalize (low n' d').den = y' at *
    grind
theorem compare_low {m : Int} {n d n' d' : Int} (hd : 0 < d) (hd' : 0 < d') (b1 : n.natAbs ≤ 100000000) (b2 : d ≤ 100000000) (b3 : n'.natAbs ≤ 100000000) (b4 : d' ≤ 100000000) :
    APure (C m) 81 [.agg (rc (low n d)), .agg (rc (low n' d'))] (I (cmp3 (n * d') (n' * d))) := by
  have h1 := isLow (n := n) hd
  have h2 := isLow (n := n') hd'
  have e1 := mulb (Nat.le_trans h1.num b1) (y := (low n' d').den) (b := 100000000) (by have := h2.le; have := h2.den; omega)
  have e2 := mulb (Nat.le_trans h2.num b3) (y := (low n d).den) (b := 100000000) (by have := h1.le; have := h1.den; omega)
  have h := up (m := m) (refCompare_raw (low n d).num (low n d).den (low n' d').num (low n' d').den)
  rw [wrap_id (n := (low n d).num * (low n' d').den) (by omega) (by omega), wrap_id (n := (low n' d').num * (low n d).den) (by omega) (by omega)] at h
  have := cmp_low (n := n) (n' := n') hd hd'
  rw [← this]
  exact h
theorem right_low {m : Int} {n d : Int} (hd : 0 < d) (b1 : n.natAbs ≤ 100000000) (b2 : d ≤ 100000000) : APure (C m) 71 [.agg (rc (low n d))] (Bo true) := by
  have h := isLow (n := n) hd
  have h1 := h.num; have h2 := h.le
  exact right_pure _ _ (by omega) h.den (by omega) h.gcd
theorem captured_ok {m : Int} {a b : Sg} {band : Int} (ha : Ok a) (hb : Ok b) (h0 : 1000 ≤ band) (h1 : band ≤ 10000) : APure (C m) 47 [.agg (sc2 a b), I band] (.tup [I (capI a b band), I 0]) := by
  have h := up (m := m) (Captured_pure a b band)
  have hz : twoE a b band = 0 := twoE_zero.2 ⟨ha, hb, h0, h1⟩
  rwa [if_pos hz, hz] at h
theorem mixed_ok {m : Int} {a b : Sg} {band : Int} (ha : Ok a) (hb : Ok b) (h0 : 1000 ≤ band) (h1 : band ≤ 10000) : APure (C m) 48 [.agg (sc2 a b), I band] (.tup [.agg (rc (mixR a b band)), I 0]) := by
  have h := up (m := m) (Mixed_pure a b band)
  have hz : twoE a b band = 0 := twoE_zero.2 ⟨ha, hb, h0, h1⟩
  rwa [if_pos hz, hz] at h
theorem mix_same {a t : Sg} {band k : Int} (hk : 0 < k) (hq : 0 < sq a.c) (hd : dif t = k * dif a) (hs : sq t.c = k * sq a.c) : mixR t a band = low (dif a) (sq a.c) ∧ mixR a t band = low (dif a) (sq a.c) := by
  have e1 : low (dif t) (sq t.c) = low (dif a) (sq a.c) := by rw [hd, hs]; exact low_scale hk
  have e2 : low (dif t + dif a) (sq t.c + sq a.c) = low (dif a) (sq a.c) := by
    rw [hd, hs, show k * dif a + dif a = (k + 1) * dif a by grind, show k * sq a.c + sq a.c = (k + 1) * sq a.c by grind]
    exact low_scale (by omega)
  have e3 : low (dif a + dif t) (sq a.c + sq t.c) = low (dif a) (sq a.c) := by rw [Int.add_comm (dif a), Int.add_comm (sq a.c)]; exact e2
  unfold mixR
  constructor
  · split
    · exact e2
    · split
      · exact e1
      · rfl
  · split
    · exact e3
    · split
      · rfl
      · exact e1
theorem cap_cases (a b : Sg) (band : Int) : capI a b band = 0 ∨ capI a b band = 1 ∨ capI a b band = 2 := by
  unfold capI
  split
  · exact .inl rfl
  · split
    · exact .inl rfl
    · split
      · exact .inr (.inl rfl)
      · exact .inr (.inr rfl)
theorem cap_wide {a b : Sg} {band : Int} (ha : Ok a) (hb : Ok b) (h0 : 1000 ≤ band) (h1 : band ≤ 10000) : capI a b 10000 = 2 ∨ capI a b 10000 = capI a b band ∨ band = 1000 := by
  by_cases hw : band = 1000
  · exact .inr (.inr hw)
  · have qa := ha.sq_pos; have qb := hb.sq_pos
    have m1 : sq b.c * band ≤ sq b.c * 10000 := Int.mul_le_mul_of_nonneg_left h1 (by omega)
    have m2 : sq a.c * band ≤ sq a.c * 10000 := Int.mul_le_mul_of_nonneg_left h1 (by omega)
    have m3 : sq b.c * 1000 ≤ sq b.c * band := Int.mul_le_mul_of_nonneg_left h0 (by omega)
    have e1 : ¬ (a = b ∧ (10000 : Int) = 1000) := fun h => absurd h.2 (by decide)
    have e2 : ¬ (a = b ∧ band = 1000) := fun h => hw h.2
    unfold capI
    rw [if_neg e1, if_neg e2]
    by_cases c1 : sq b.c * 10000 ≤ sq a.c * 1000
    · rw [if_pos c1, if_pos (by omega)]; exact .inr (.inl rfl)
    · rw [if_neg c1]
      by_cases c2 : sq a.c * 10000 ≤ sq b.c * 1000
      · rw [if_pos c2, if_neg (by omega), if_pos (by omega)]; exact .inr (.inl rfl)
      · rw [if_neg c2]; exact .inl rfl
theorem mix_form {a b : Sg} (band : Int) (ha : Ok a) (hb : Ok b) : ∃ n d : Int, mixR a b band = low n d ∧ ((n = dif a ∧ d = sq a.c) ∨ (n = dif b ∧ d = sq b.c) ∨ (n = dif a + dif b ∧ d = sq a.c + sq b.c)) := by
  unfold mixR
  split
  · exact ⟨_, _, rfl, .inr (.inr ⟨rfl, rfl⟩)⟩
  · split
    · exact ⟨_, _, rfl, .inl ⟨rfl, rfl⟩⟩
    · exact ⟨_, _, rfl, .inr (.inl ⟨rfl, rfl⟩)⟩
theorem cmp3_pos {A B : Int} : 0 < cmp3 A B ↔ B < A := by
  unfold cmp3
  split
  · omega
  · split <;> omega
theorem cmp3_nn {A B : Int} : 0 ≤ cmp3 A B ↔ B ≤ A := by
  unfold cmp3
  split
  · omega
  · split <;> omega
theorem cmp3_np {A B : Int} : cmp3 A B ≤ 0 ↔ A ≤ B := by
  unfold cmp3
  split
  · omega
  · split <;> omega
theorem med {na nb qa qb n d : Int} (hnd : (n = na ∧ d = qa) ∨ (n = nb ∧ d = qb) ∨ (n = na + nb ∧ d = qa + qb)) :
    (nb * qa < na * qb → nb * d ≤ n * qb ∧ n * qa ≤ na * d) ∧ (¬ nb * qa < na * qb → na * d ≤ n * qa ∧ n * qb ≤ nb * d) := by
  rcases hnd with ⟨rfl, rfl⟩ | ⟨rfl, rfl⟩ | ⟨rfl, rfl⟩
  · exact ⟨fun h => ⟨by omega, Int.le_refl _⟩, fun h => ⟨Int.le_refl _, by omega⟩⟩
  · exact ⟨fun h => ⟨Int.le_refl _, by omega⟩, fun h => ⟨by omega, Int.le_refl _⟩⟩
  · simp only [Int.add_mul, Int.mul_add]
    exact ⟨fun h => ⟨by omega, by omega⟩, fun h => ⟨by omega, by omega⟩⟩
set_option maxHeartbeats 8000000 in
theorem ToneAgrees_near {m : Int} (a b : Sg) (bandN : Int) (l : List Sg) (hbd : 0 ≤ bandN ∧ bandN ≤ 65535) (ha : nearP a 1000) (hb : nearP b 1000) (hl : l.length ≤ 8)
    (tail : AWp (C m) Tryz.f13.ntmps (pieceAt [1,1,1,1,1,1,1,1,1,1,1,1,1,1,1,1,1,1] c13) (endTrue m [ResultVar.tmp 6]) (stMore a b bandN l)) :
    APure (C m) 13 [.agg (sc a), .agg (sc b), .agg (moreC bandN l)] (Bo true) := by
  have va := checkE_zero.1 ha.1; have vb := checkE_zero.1 hb.1
  have qa := va.sq_pos; have qb := vb.sq_pos
  have fa := near1_fit ha.2.1 (by decide); have fb := near1_fit hb.2.1 (by decide)
  have ba := sqb fa; have bb := sqb fb
  have d1 := agab fa (near1_fit ha.2.2.1 (by decide)); have d2 := agab fa (near1_fit ha.2.2.2 (by decide))
  have d3 := agab fb (near1_fit hb.2.2.1 (by decide)); have d4 := agab fb (near1_fit hb.2.2.2 (by decide))
  have eA : dif a = aga a a.l - aga a a.h := by simp only [dif, aga, G.sub]; grind
  have eB : dif b = aga b b.l - aga b b.h := by simp only [dif, aga, G.sub]; grind
  simp only [Int.reduceToNat] at ba bb d1 d2 d3 d4
  have m1 := tmod_pos9 hbd.1 (k := 9001) (by decide)
  generalize hband : 1000 + bandN.tmod 9001 = band
  have h0 : 1000 ≤ band := by omega
  have h1 : band ≤ 10000 := by omega
  obtain ⟨n, d, hN, hnd⟩ := mix_form (a := a) (b := b) band va vb
  have hd : 0 < d := by omega
  have okT := ok_of (turn_near ha.2) (by decide) (by decide) (by rw [turn_sq]; exact qa)
  have f2 : (⟨2, 0⟩ : G).Fit 2 := ⟨by decide, by decide⟩
  have wS : sq (a.by ⟨2, 0⟩ ⟨2, 0⟩).c = 4 * sq a.c := by rw [by_sq]; rfl
  have wD : dif (a.by ⟨2, 0⟩ ⟨2, 0⟩) = 4 * dif a := by rw [by_dif]; rfl
  have okW : Ok (a.by ⟨2, 0⟩ ⟨2, 0⟩) := by
    have e1 := mul_near fa f2; have e2 := mul_near (near1_fit ha.2.2.1 (by decide)) f2; have e3 := mul_near (near1_fit ha.2.2.2 (by decide)) f2
    simp only [Int.reduceToNat] at e1 e2 e3
    exact ok_of (n := 4000) ⟨e1, e2, e3⟩ (by decide) (by decide) (by rw [wS]; omega)
  have mt := (mix_same (a := a) (t := a.turn 1) (band := band) (k := 1) (by decide) qa (by rw [turn_dif]; omega) (by rw [turn_sq]; omega)).2
  have mw := (mix_same (a := a) (t := a.by ⟨2, 0⟩ ⟨2, 0⟩) (band := band) (k := 4) (by decide) qa wD wS).1
  have cxy : ∀ {p q : Int}, 0 < q → p.natAbs ≤ 100000000 → q ≤ 100000000 → APure (C m) 81 [.agg (rc (mixR a b band)), .agg (rc (low p q))] (I (cmp3 (n * q) (p * d))) := fun hq b1 b2 => by
    rw [hN]
    exact compare_low hd hq (by omega) (by omega) b1 b2
  have hcase := cap_cases a b band
  have hmed := med hnd
  by_cases hc : dif b * sq a.c < dif a * sq b.c
  · have hcu : 0 < cmp3 (dif a * sq b.c) (dif b * sq a.c) := cmp3_pos.2 hc
    refine ToneAgrees_first a b bandN band (capI a b band) (capI a b 10000) (cmp3 (dif a * sq b.c) (dif b * sq a.c)) (cmp3 (n * sq b.c) (dif b * d)) (cmp3 (n * sq a.c) (dif a * d)) l (mixR a b band) (low (dif a) (sq a.c)) (low (dif b) (sq b.c)) (a.turn 1) (a.by ⟨2, 0⟩ ⟨2, 0⟩)
      (by rw [show wrapK IntKind.i64 bandN = bandN from w64 (by omega), hband]; exact w64 (by omega)) (by simp; omega) (by have := near_pure (m := m) a 1000 (by decide) (by decide); rwa [decide_eq_true ha] at this) (by have := near_pure (m := m) b 1000 (by decide) (by decide); rwa [decide_eq_true hb] at this)
      (captured_ok va vb h0 h1) (mixed_ok va vb h0 h1) (needle_ok ha.1) (needle_ok hb.1) (captured_ok va vb (by decide) (by decide)) (by omega) (by rw [hN]; exact right_low hd (by omega) (by omega)) (right_low qa (by omega) (by omega)) (right_low qb (by omega) (by omega))
      (fun h => by unfold mixR; rw [h]; exact eq_ratio_self _ _) (fun h => by unfold mixR; rw [h]; exact eq_ratio_self _ _) (cap_wide va vb h0 h1) (compare_low qa qb (by omega) (by omega) (by omega) (by omega)) (fun h => absurd hcu h) (fun h => absurd hcu h) (fun _ => cxy qb (by omega) (by omega)) (fun _ => cxy qa (by omega) (by omega))
      (cmp3_nn.2 (hmed.1 hc).1) (cmp3_np.2 (hmed.1 hc).2) (turned_ok ha.1 (by decide) (by decide)) (by have := mixed_ok (m := m) va okT h0 h1; rwa [mt] at this) (scaled_ok (c := ⟨2, 0⟩) (d := ⟨2, 0⟩) ha.1 (f2.mono (by decide)) (by decide) (f2.mono (by decide)) okW) (by have := mixed_ok (m := m) okW va h0 h1; rwa [mw] at this) tail
  · have hcu : ¬ 0 < cmp3 (dif a * sq b.c) (dif b * sq a.c) := fun h => hc (cmp3_pos.1 h)
    refine ToneAgrees_first a b bandN band (capI a b band) (capI a b 10000) (cmp3 (dif a * sq b.c) (dif b * sq a.c)) (cmp3 (n * sq a.c) (dif a * d)) (cmp3 (n * sq b.c) (dif b * d)) l (mixR a b band) (low (dif a) (sq a.c)) (low (dif b) (sq b.c)) (a.turn 1) (a.by ⟨2, 0⟩ ⟨2, 0⟩)
      (by rw [show wrapK IntKind.i64 bandN = bandN from w64 (by omega), hband]; exact w64 (by omega)) (by simp; omega) (by have := near_pure (m := m) a 1000 (by decide) (by decide); rwa [decide_eq_true ha] at this) (by have := near_pure (m := m) b 1000 (by decide) (by decide); rwa [decide_eq_true hb] at this)
      (captured_ok va vb h0 h1) (mixed_ok va vb h0 h1) (needle_ok ha.1) (needle_ok hb.1) (captured_ok va vb (by decide) (by decide)) (by omega) (by rw [hN]; exact right_low hd (by omega) (by omega)) (right_low qa (by omega) (by omega)) (right_low qb (by omega) (by omega))
      (fun h => by unfold mixR; rw [h]; exact eq_ratio_self _ _) (fun h => by unfold mixR; rw [h]; exact eq_ratio_self _ _) (cap_wide va vb h0 h1) (compare_low qa qb (by omega) (by omega) (by omega) (by omega)) (fun _ => cxy qa (by omega) (by omega)) (fun _ => cxy qb (by omega) (by omega)) (fun h => absurd h hcu) (fun h => absurd h hcu)
      (cmp3_nn.2 (hmed.2 hc).1) (cmp3_np.2 (hmed.2 hc).2) (turned_ok ha.1 (by decide) (by decide)) (by have := mixed_ok (m := m) va okT h0 h1; rwa [mt] at this) (scaled_ok (c := ⟨2, 0⟩) (d := ⟨2, 0⟩) ha.1 (f2.mono (by decide)) (by decide) (f2.mono (by decide)) okW) (by have := mixed_ok (m := m) okW va h0 h1; rwa [mw] at this) tail
end Go.Proofs.Ab.Tone2
end
section
/- The reference's crossings as a list, and that it is the program's. -/
set_option maxRecDepth 100000
set_option linter.unusedVariables false
set_option linter.unusedSimpArgs false
namespace Go.Proofs.Ab.Tone2
open Go Go.RowKit Go.Proofs.Ab Go.Proofs.Ab.Tone
/-- One more zero at index k. -/
def refZ (xs : List Sg) (ys : List Sp) (k : Nat) : List Sp :=
  if zeroP xs k then (if decide (0 < k) && zeroP xs (k - 1) then ys.dropLast ++ [((ys.getLast?.map (·.1)).getD 0, (k : Int) + 1)] else ys ++ [((k : Int), (k : Int) + 1)]) else ys
def refC (xs : List Sg) : Nat → List Sp
  | 0 => []
  | k + 1 => if crossB xs (k + 1) then refZ xs (refC xs k) k ++ [((k : Int), (k : Int) + 2)] else refZ xs (refC xs k) k
theorem spans_last (p : Nat → Bool) : ∀ k, match (spans p k).getLast? with
    | some q => q.2 ≤ (k : Int) ∧ (q.2 = (k : Int) ↔ 0 < k ∧ p (k - 1) = true)
    | none => ¬ (0 < k ∧ p (k - 1) = true)
  | 0 => by simp [spans]
  | k + 1 => by
    have ih := spans_last p k
    unfold spans
    cases hp : p k with
    | true =>
      simp only [if_true]
      unfold joinP
      cases hl : (spans p k).getLast? with
      | none => simp [hp]
      | some q =>
        by_cases hq : q.2 = (k : Int)
        · simp [hq, hp]
        · simp [hq, hp]
    | false =>
      simp only [Bool.false_eq_true, if_false]
      cases hl : (spans p k).getLast? with
      | none => simp [hp]
      | some q =>
        rw [hl] at ih
        simp only at ih ⊢
        refine ⟨by omega, ?_⟩
        simp [hp]
        omega
theorem crossP_succ (xs : List Sg) (k : Nat) : crossP xs (k + 2) = if crossB xs (k + 1) then crossP xs (k + 1) ++ [((k : Int), (k : Int) + 2)] else crossP xs (k + 1) := by
  show (if crossB xs (k + 1) then crossP xs (k + 1) ++ [(((k + 1 : Nat) : Int) - 1, ((k + 1 : Nat) : Int) + 1)] else crossP xs (k + 1)) = _
  rw [show (((k + 1 : Nat) : Int) - 1) = (k : Int) by omega, show (((k + 1 : Nat) : Int) + 1) = (k : Int) + 2 by omega]
theorem perm_snoc {a b c : List Sp} {x : Sp} (h : a.Perm (b ++ c)) : (a ++ [x]).Perm (b ++ [x] ++ c) := by
  have h1 := h.append_right [x]
  rw [List.append_assoc] at h1 ⊢
  refine h1.trans ?_
  exact List.Perm.append_left b List.perm_append_comm
theorem sorted_snoc {a : List Sp} {x : Sp} (h : a.Pairwise fun x y => x.1 ≤ y.1) (hx : ∀ q ∈ a, q.1 ≤ x.1) : (a ++ [x]).Pairwise fun x y => x.1 ≤ y.1 := by
  rw [List.pairwise_append]
  refine ⟨h, by simp, fun p hp q hq => ?_⟩
  simp at hq
  subst hq
  exact hx p hp
structure RefI (xs : List Sg) (k : Nat) : Prop where
  perm : (refC xs k).Perm (crossP xs (k + 1) ++ spans (zeroP xs) k)
  sort : (refC xs k).Pairwise fun x y => x.1 ≤ y.1
  lt : ∀ q ∈ refC xs k, q.1 < (k : Int)
  last : 0 < k → zeroP xs (k - 1) = true → ∃ a z q, refC xs k = a ++ [q] ∧ spans (zeroP xs) k = z ++ [q] ∧ q.2 = (k : Int) ∧ a.Perm (crossP xs (k + 1) ++ z)
theorem refI (xs : List Sg) : ∀ k, RefI xs k
  | 0 => ⟨by simp [refC, crossP, spans, crossB], by simp [refC], by simp [refC], fun h => absurd h (by decide)⟩
  | k + 1 => by
    have ih := refI xs k
    have hsl := spans_last (zeroP xs) k
    have hs1 : spans (zeroP xs) (k + 1) = if zeroP xs k then joinP (spans (zeroP xs) k) k else spans (zeroP xs) k := rfl
    have hc1 : refC xs (k + 1) = if crossB xs (k + 1) then refZ xs (refC xs k) k ++ [((k : Int), (k : Int) + 2)] else refZ xs (refC xs k) k := rfl
    have hp1 := crossP_succ xs k
    cases hz : zeroP xs k with
    | true =>
      have hcb : crossB xs (k + 1) = false := by
        cases hb : crossB xs (k + 1) with
        | false => rfl
        | true => have := cross_zero hb; rw [hz] at this; cases this
      rw [hcb] at hc1 hp1
      rw [hz] at hs1
      simp only [Bool.false_eq_true, if_false, if_true] at hc1 hp1 hs1
      by_cases hk : 0 < k ∧ zeroP xs (k - 1) = true
      · obtain ⟨a, z, q, e1, e2, e3, e4⟩ := ih.last hk.1 hk.2
        have er : refC xs (k + 1) = a ++ [(q.1, (k : Int) + 1)] := by
          rw [hc1]; unfold refZ; rw [hz, if_pos rfl, if_pos (by simp [hk]), e1]; simp
        have es : spans (zeroP xs) (k + 1) = z ++ [(q.1, (k : Int) + 1)] := by
          rw [hs1, e2]; unfold joinP; simp [e3]
        have hso := ih.sort
        have hlt := ih.lt
        rw [e1] at hso hlt
        have hq := hlt q (by simp)
        refine ⟨?_, ?_, ?_, fun _ _ => ⟨a, z, _, er, es, by simp, by rw [hp1]; exact e4⟩⟩
        · rw [er, es, hp1, ← List.append_assoc]; exact e4.append_right _
        · rw [er]
          rw [List.pairwise_append] at hso ⊢
          refine ⟨hso.1, by simp, fun p hp y hy => ?_⟩
          simp at hy
          subst hy
          exact hso.2.2 p hp q (by simp)
        · rw [er]
          intro y hy
          rcases List.mem_append.1 hy with hy | hy
          · have := hlt y (List.mem_append_left _ hy); omega
          · simp at hy; subst hy; simp only; omega
      · have er : refC xs (k + 1) = refC xs k ++ [((k : Int), (k : Int) + 1)] := by
          rw [hc1]; unfold refZ; rw [hz, if_pos rfl, if_neg (by simpa using hk)]
        have es : spans (zeroP xs) (k + 1) = spans (zeroP xs) k ++ [((k : Int), (k : Int) + 1)] := by
          rw [hs1]; unfold joinP
          cases hl : (spans (zeroP xs) k).getLast? with
          | none => rfl
          | some q =>
            rw [hl] at hsl
            simp only at hsl ⊢
            rw [if_neg (fun e => hk (hsl.2.1 e))]
        refine ⟨?_, ?_, ?_, fun _ _ => ⟨refC xs k, spans (zeroP xs) k, _, er, es, by simp, by rw [hp1]; exact ih.perm⟩⟩
        · rw [er, es, hp1, ← List.append_assoc]; exact ih.perm.append_right _
        · rw [er]; exact sorted_snoc ih.sort fun q hq => by have := ih.lt q hq; simp only; omega
        · rw [er]
          intro y hy
          rcases List.mem_append.1 hy with hy | hy
          · have := ih.lt y hy; omega
          · simp at hy; subst hy; simp only; omega
    | false =>
      have ez : refZ xs (refC xs k) k = refC xs k := by unfold refZ; rw [hz]; rfl
      rw [hz] at hs1
      rw [ez] at hc1
      simp only [Bool.false_eq_true, if_false] at hs1
      have hl : ¬ zeroP xs (k + 1 - 1) = true := by simp [hz]
      cases hb : crossB xs (k + 1) with
      | true =>
        rw [hb] at hc1 hp1
        simp only [if_true] at hc1 hp1
        refine ⟨?_, ?_, ?_, fun _ h => absurd h hl⟩
        · rw [hc1, hp1, hs1]; exact perm_snoc ih.perm
        · rw [hc1]; exact sorted_snoc ih.sort fun q hq => by have := ih.lt q hq; simp only; omega
        · rw [hc1]
          intro y hy
          rcases List.mem_append.1 hy with hy | hy
          · have := ih.lt y hy; omega
          · simp at hy; subst hy; simp only; omega
      | false =>
        rw [hb] at hc1 hp1
        simp only [Bool.false_eq_true, if_false] at hc1 hp1
        refine ⟨?_, ?_, ?_, fun _ h => absurd h hl⟩
        · rw [hc1, hp1, hs1]; exact ih.perm
        · rw [hc1]; exact ih.sort
        · rw [hc1]; intro y hy; have := ih.lt y hy; omega
theorem crossB_out (xs : List Sg) : crossB xs xs.length = false := by
  unfold crossB
  simp
theorem refC_eq (xs : List Sg) : refC xs xs.length = crossL xs := by
  have h := refI xs xs.length
  refine crossL_of ?_ h.sort
  have e : crossP xs (xs.length + 1) = crossP xs xs.length := by
    show (if crossB xs xs.length then _ else crossP xs xs.length) = _
    rw [crossB_out]
    rfl
  rw [← e]
  exact h.perm
end Go.Proofs.Ab.Tone2
end
section
/- What the crossings cover: the plain law. -/
set_option maxRecDepth 100000
set_option linter.unusedVariables false
set_option linter.unusedSimpArgs false
namespace Go.Proofs.Ab.Tone2
open Go Go.RowKit Go.Proofs.Ab Go.Proofs.Ab.Tone
/-- Neither a zero nor a crossing begins at k. -/
def clean (xs : List Sg) (k : Nat) : Prop := zeroP xs k = false ∧ crossB xs (k + 1) = false
/-- From i on, spans that cover zeros and crossings, up to e. -/
inductive PCov (xs : List Sg) : Nat → List Sp → Nat → Prop
  | nil (i : Nat) : PCov xs i [] i
  | zero (i f t : Nat) (qs : List Sp) (e : Nat) (h1 : i ≤ f) (h2 : f < t) (h3 : t ≤ xs.length) (hc : ∀ k, i ≤ k → k < f → clean xs k) (hz : ∀ k, f ≤ k → k < t → zeroP xs k = true) (h : PCov xs t qs e) : PCov xs i (((f : Int), (t : Int)) :: qs) e
  | cross (i f : Nat) (qs : List Sp) (e : Nat) (h1 : i ≤ f) (h3 : f + 2 ≤ xs.length) (hc : ∀ k, i ≤ k → k < f → clean xs k) (hx : crossB xs (f + 1) = true) (h : PCov xs (f + 1) qs e) : PCov xs i (((f : Int), (f : Int) + 2) :: qs) e
theorem PCov.snoc_zero {xs : List Sg} {i e : Nat} {qs : List Sp} (h : PCov xs i qs e) {f t : Nat} (h1 : e ≤ f) (h2 : f < t) (h3 : t ≤ xs.length) (hc : ∀ k, e ≤ k → k < f → clean xs k) (hz : ∀ k, f ≤ k → k < t → zeroP xs k = true) : PCov xs i (qs ++ [((f : Int), (t : Int))]) t := by
  induction h with
  | nil i => exact .zero i f t [] t h1 h2 h3 hc hz (.nil t)
  | zero i f' t' qs e a1 a2 a3 a4 a5 _ ih => exact .zero i f' t' _ t a1 a2 a3 a4 a5 (ih h1 hc)
  | cross i f' qs e a1 a3 a4 a5 _ ih => exact .cross i f' _ t a1 a3 a4 a5 (ih h1 hc)
theorem PCov.snoc_cross {xs : List Sg} {i e : Nat} {qs : List Sp} (h : PCov xs i qs e) {f : Nat} (h1 : e ≤ f) (h3 : f + 2 ≤ xs.length) (hc : ∀ k, e ≤ k → k < f → clean xs k) (hx : crossB xs (f + 1) = true) : PCov xs i (qs ++ [((f : Int), (f : Int) + 2)]) (f + 1) := by
  induction h with
  | nil i => exact .cross i f [] (f + 1) h1 h3 hc hx (.nil (f + 1))
  | zero i f' t' qs e a1 a2 a3 a4 a5 _ ih => exact .zero i f' t' _ _ a1 a2 a3 a4 a5 (ih h1 hc)
  | cross i f' qs e a1 a3 a4 a5 _ ih => exact .cross i f' _ _ a1 a3 a4 a5 (ih h1 hc)
theorem PCov.len {xs : List Sg} {i e : Nat} {qs : List Sp} (h : PCov xs i qs e) (hi : i ≤ xs.length) : qs.length + i ≤ e ∧ e ≤ xs.length := by
  induction h with
  | nil i => exact ⟨by simp, hi⟩
  | zero i f' t' qs e a1 a2 a3 a4 a5 _ ih => have := ih a3; simp only [List.length_cons]; omega
  | cross i f' qs e a1 a3 a4 a5 _ ih => have := ih (by omega); simp only [List.length_cons]; omega
theorem crossB_lt {xs : List Sg} {k : Nat} (h : crossB xs (k + 1) = true) : k + 1 < xs.length := by
  unfold crossB at h
  rcases Nat.lt_or_ge (k + 1) xs.length with h1 | h1
  · exact h1
  · rw [List.getElem?_eq_none h1] at h
    simp at h
theorem zeroP_lt {xs : List Sg} {k : Nat} (h : zeroP xs k = true) : k < xs.length := by
  unfold zeroP at h
  rcases Nat.lt_or_ge k xs.length with h1 | h1
  · exact h1
  · rw [List.getElem?_eq_none h1] at h
    simp at h
structure CovI (xs : List Sg) (k : Nat) : Prop where
  all : ∃ e, PCov xs 0 (refC xs k) e ∧ e ≤ k ∧ ∀ j, e ≤ j → j < k → clean xs j
  last : 0 < k → zeroP xs (k - 1) = true → ∃ (l : List Sp) (f e : Nat), refC xs k = l ++ [((f : Int), (k : Int))] ∧ PCov xs 0 l e ∧ e ≤ f ∧ f < k ∧ (∀ j, e ≤ j → j < f → clean xs j) ∧ ∀ j, f ≤ j → j < k → zeroP xs j = true
theorem covI (xs : List Sg) : ∀ k, CovI xs k
  | 0 => ⟨⟨0, .nil 0, Nat.le_refl _, fun j h1 h2 => absurd h2 (by omega)⟩, fun h => absurd h (by decide)⟩
  | k + 1 => by
    have ih := covI xs k
    have hc1 : refC xs (k + 1) = if crossB xs (k + 1) then refZ xs (refC xs k) k ++ [((k : Int), (k : Int) + 2)] else refZ xs (refC xs k) k := rfl
    cases hz : zeroP xs k with
    | true =>
      have hcb : crossB xs (k + 1) = false := by
        cases hb : crossB xs (k + 1) with
        | false => rfl
        | true => have := cross_zero hb; rw [hz] at this; cases this
      have hlt := zeroP_lt hz
      rw [hcb] at hc1
      simp only [Bool.false_eq_true, if_false] at hc1
      by_cases hk : 0 < k ∧ zeroP xs (k - 1) = true
      · obtain ⟨l, f, e, e1, hp, h1, h2, h3, h4⟩ := ih.last hk.1 hk.2
        have er : refC xs (k + 1) = l ++ [((f : Int), ((k + 1 : Nat) : Int))] := by
          rw [hc1]; unfold refZ; rw [hz, if_pos rfl, if_pos (by simp [hk]), e1]; simp
        have hz' : ∀ j, f ≤ j → j < k + 1 → zeroP xs j = true := fun j a b => by
          rcases Nat.lt_or_ge j k with h | h
          · exact h4 j a h
          · rw [show j = k by omega]; exact hz
        exact ⟨⟨k + 1, er ▸ hp.snoc_zero h1 (by omega) (by omega) h3 hz', Nat.le_refl _, fun j a b => absurd b (by omega)⟩, fun _ _ => ⟨l, f, e, er, hp, h1, by omega, h3, hz'⟩⟩
      · obtain ⟨e, hp, h1, h3⟩ := ih.all
        have er : refC xs (k + 1) = refC xs k ++ [((k : Int), ((k + 1 : Nat) : Int))] := by
          rw [hc1]; unfold refZ; rw [hz, if_pos rfl, if_neg (by simpa using hk)]; simp
        have hz' : ∀ j, k ≤ j → j < k + 1 → zeroP xs j = true := fun j a b => by rw [show j = k by omega]; exact hz
        exact ⟨⟨k + 1, er ▸ hp.snoc_zero h1 (by omega) (by omega) h3 hz', Nat.le_refl _, fun j a b => absurd b (by omega)⟩, fun _ _ => ⟨refC xs k, k, e, er, hp, h1, by omega, h3, hz'⟩⟩
    | false =>
      obtain ⟨e, hp, h1, h3⟩ := ih.all
      have ez : refZ xs (refC xs k) k = refC xs k := by unfold refZ; rw [hz]; rfl
      rw [ez] at hc1
      have hl : ¬ zeroP xs (k + 1 - 1) = true := by simp [hz]
      cases hb : crossB xs (k + 1) with
      | true =>
        rw [hb] at hc1
        simp only [if_true] at hc1
        exact ⟨⟨k + 1, hc1 ▸ hp.snoc_cross h1 (by have := crossB_lt hb; omega) h3 hb, Nat.le_refl _, fun j a b => absurd b (by omega)⟩, fun _ h => absurd h hl⟩
      | false =>
        rw [hb] at hc1
        simp only [Bool.false_eq_true, if_false] at hc1
        refine ⟨⟨e, hc1 ▸ hp, by omega, fun j a b => ?_⟩, fun _ h => absurd h hl⟩
        rcases Nat.lt_or_ge j k with h | h
        · exact h3 j a h
        · rw [show j = k by omega]; exact ⟨hz, hb⟩
/-- What is left to cover. -/
structure Cov (xs : List Sg) (i : Nat) (qs : List Sp) : Prop where
  h : ∃ e, PCov xs i qs e ∧ ∀ j, e ≤ j → j < xs.length → clean xs j
theorem cov_all (xs : List Sg) : Cov xs 0 (crossL xs) := by
  obtain ⟨e, hp, _, h⟩ := (covI xs xs.length).all
  rw [← refC_eq]
  exact ⟨e, hp, h⟩
theorem Cov.len {xs : List Sg} {i : Nat} {qs : List Sp} (h : Cov xs i qs) (hi : i ≤ xs.length) : qs.length + i ≤ xs.length := by
  obtain ⟨e, hp, _⟩ := h.h
  have := hp.len hi
  omega
theorem Cov.done {xs : List Sg} {i : Nat} (h : Cov xs i []) {j : Nat} (h1 : i ≤ j) (h2 : j < xs.length) : clean xs j := by
  obtain ⟨e, hp, hc⟩ := h.h
  cases hp
  exact hc j h1 h2
theorem Cov.next {xs : List Sg} {i : Nat} {q : Sp} {qs : List Sp} (h : Cov xs i (q :: qs)) : ∃ f t : Nat, q = ((f : Int), (t : Int)) ∧ i ≤ f ∧ f < t ∧ t ≤ xs.length ∧ (∀ k, i ≤ k → k < f → clean xs k) ∧
    (((∀ k, f ≤ k → k < t → zeroP xs k = true) ∧ Cov xs t qs) ∨ (t = f + 2 ∧ crossB xs (f + 1) = true ∧ zeroP xs f = false ∧ Cov xs (f + 1) qs)) := by
  obtain ⟨e, hp, hc⟩ := h.h
  cases hp with
  | zero _ f t _ _ h1 h2 h3 hcl hz hr => exact ⟨f, t, rfl, h1, h2, h3, hcl, .inl ⟨hz, ⟨e, hr, hc⟩⟩⟩
  | cross _ f _ _ h1 h3 hcl hx hr => exact ⟨f, f + 2, by simp, h1, by omega, h3, hcl, .inr ⟨rfl, hx, cross_zero hx, ⟨e, hr, hc⟩⟩⟩
end Go.Proofs.Ab.Tone2
end
section
/- The law of what agrees: one span. -/
set_option maxRecDepth 100000
set_option linter.unusedVariables false
set_option linter.unusedSimpArgs false
namespace Go.Proofs.Ab.Tone2
open Go Go.RowKit Go.Proofs.Ab Go.Proofs.Ab.Tone
noncomputable def pTail : Code := pieceAt [1,1,1,1,1,1,1,1,1,1,1,1,1,1,1,1,1,1] c13
abbrev sgnP (xs : List Sg) : PV := .seq 1 (cells1 (xs.map sgn))
theorem sgn_some (xs : List Sg) {k : Nat} (hk : k < xs.length) : 0 ≤ (k : Int) ∧ (cells1 (xs.map sgn))[((k : Int)).toNat]? = some [I (sgn xs[k])] := ⟨by omega, by show (cells1 (xs.map sgn))[k]? = _; simp [cells1, hk]⟩
theorem sgn_some1 (xs : List Sg) {k : Nat} (hk : k + 1 < xs.length) : 0 ≤ (k : Int) + 1 ∧ (cells1 (xs.map sgn))[((k : Int) + 1).toNat]? = some [I (sgn xs[k + 1])] := ⟨by omega, by rw [show ((k : Int) + 1).toNat = k + 1 by omega]; simp [cells1, hk]⟩
theorem sgn_mul (xs : List Sg) {i j : Nat} (hi : i < xs.length) (hj : j < xs.length) : wrapK IntKind.i64 (sgn xs[i] * sgn xs[j]) = sgn xs[i] * sgn xs[j] := by
  rcases sgn_cases xs[i] with h | h | h <;> rcases sgn_cases xs[j] with h' | h' | h' <;> rw [h, h'] <;> kernel_rfl
theorem zero_at {xs : List Sg} {k : Nat} (hk : k < xs.length) : zeroP xs k = decide (sgn xs[k] = 0) := by simp [zeroP, hk]
theorem cross_at {xs : List Sg} {k : Nat} (hk : k + 1 < xs.length) : crossB xs (k + 1) = decide (sgn xs[k] * sgn xs[k + 1] < 0) := by
  unfold crossB
  rw [Nat.add_sub_cancel, List.getElem?_eq_getElem hk, List.getElem?_eq_getElem (by omega : k < xs.length), Int.mul_comm]
  simp
theorem clean_at {xs : List Sg} {k : Nat} (hk : k < xs.length) (h : clean xs k) : ¬ sgn xs[k] = 0 ∧ ∀ h1 : k + 1 < xs.length, ¬ sgn xs[k] * sgn xs[k + 1] < 0 := by
  refine ⟨fun e => ?_, fun h1 e => ?_⟩
  · have := h.1
    rw [zero_at hk] at this
    simp [e] at this
  · have := h.2
    rw [cross_at h1] at this
    simp [e] at this
/-- What follows the look ahead of a span. -/
noncomputable def pEnd : Code := pieceAt [1,1,1,1,1,1,1,0,1,0,0,1,1,0,0,1,1,1] pTail
abbrev stE (xs : List Sg) (qs : List Sp) (j i f t : Nat) : AS := ⟨[(37, .p (I i)), (39, .box 0 0), (295, .p (I j)), (294, .p (I qs.length)), (293, .p (seqP qs)), (29, .p (.seq 6 (xs.map sc))), (32, .p (sgnP xs))], [(0, (143, [I f, I t]))], [], 1, [], [], []⟩
abbrev stF (xs : List Sg) (qs : List Sp) (j i : Nat) : AS := ⟨[(37, .p (I i)), (295, .p (I j)), (294, .p (I qs.length)), (293, .p (seqP qs)), (29, .p (.seq 6 (xs.map sc))), (32, .p (sgnP xs))], [], [], 0, [], [], []⟩
abbrev postF (m : Int) (xs : List Sg) (qs : List Sp) (j i : Nat) : Out → AS → Prop := fun e s' => match e with | .normal => SLe (C m) Tryz.f13.ntmps s' (stF xs qs j i) | _ => False
theorem zero_some {xs : List Sg} {k : Nat} (hk : k < xs.length) (h : zeroP xs k = true) : 0 ≤ (k : Int) ∧ (cells1 (xs.map sgn))[((k : Int)).toNat]? = some [I 0] := by
  rw [zero_at hk] at h
  have := sgn_some xs hk
  rwa [show sgn xs[k] = 0 by simpa using h] at this
theorem zero_some1 {xs : List Sg} {k : Nat} (hk : k + 1 < xs.length) (h : zeroP xs (k + 1) = true) : 0 ≤ (k : Int) + 1 ∧ (cells1 (xs.map sgn))[((k : Int) + 1).toNat]? = some [I 0] := by
  rw [zero_at hk] at h
  have := sgn_some1 xs hk
  rwa [show sgn xs[k + 1] = 0 by simpa using h] at this
noncomputable def pEnd2 : Code := pieceAt [1,1] pEnd
abbrev stG (xs : List Sg) (qs : List Sp) (j i f t : Nat) (c : Bool) : AS := ⟨[(40, .p (Bo c)), (41, .p (Bo true)), (37, .p (I i)), (39, .box 0 0), (295, .p (I j)), (294, .p (I qs.length)), (293, .p (seqP qs)), (29, .p (.seq 6 (xs.map sc))), (32, .p (sgnP xs))], [(0, (143, [I f, I t]))], [], 1, [], [], []⟩
/-- Where the span holds zeros. -/
theorem end_zero2 {m : Int} (xs : List Sg) (hl : xs.length ≤ 10) (qs : List Sp) (j f t : Nat) (h2 : f < t) (h3 : t ≤ xs.length) (hz : ∀ k, f ≤ k → k < t → zeroP xs k = true) : AWp (C m) Tryz.f13.ntmps pEnd2 (postF m xs qs j t) (stG xs qs j f f t false) := by
  have wk1 : wrapK IntKind.i64 ((f : Int) + 1) = f + 1 := w64 (by omega)
  refine codeN_sound good (mu := []) (n := 10) ?_
  conv => whnf
  refine ⟨AWp.loop (ι := { k : Nat // f ≤ k ∧ k ≤ t }) (fun k => ⟨[(42, .p (I k.1)), (40, .p (Bo false)), (41, .p (Bo true)), (37, .p (I f)), (39, .box 0 0), (295, .p (I j)), (294, .p (I qs.length)), (293, .p (seqP qs)), (29, .p (.seq 6 (xs.map sc))), (32, .p (sgnP xs))], [(0, (143, [I f, I t]))], [], 1, [], [], []⟩) (fun k => t - k.1) ⟨f, Nat.le_refl _, by omega⟩ ?_ ?_⟩
  · skip
    · refine SLe.of [(0, 0)] [] rfl rfl ?_
      conv => whnf
      repeat' (first
      | exact True.intro
      | (refine SAnd.mk (PLe.of_eq (by simp only [wrapK]; rw [wrap_id (by first | omega | (simp only; done) | (simp only; omega) | simp) (by first | omega | (simp only; done) | (simp only; omega) | simp)]; simp)) ?_; conv => whnf)
      | (refine SAnd.mk (PLe.refl _) ?_; conv => whnf)
      | (refine SAnd.mk (PLeL.refl _) ?_; conv => whnf)
      | (refine SAnd.mk (PLe.of_eq (by simp)) ?_; conv => whnf)
      | (refine SAnd.mk rfl ?_; conv => whnf)
      | (refine SAnd.mk ⟨rfl, rfl⟩ ?_; conv => whnf)
      | (refine SAnd.mk ⟨rfl, rfl, rfl⟩ ?_; conv => whnf))
  · rintro ⟨k, hfk, hkt⟩
    have wk : k < t → wrapK IntKind.i64 ((k : Int) + 1) = k + 1 := fun h => w64 (by omega)
    refine codeK_sound good (mu := []) ?_
    conv => whnf
    refine SBool.mk (fun hq => ?_) (fun hq => ?_)
    · conv => whnf
      have hk2 : k < t := by simpa using hq
      have hs0 := zero_some (k := k) (by omega) (hz k hfk hk2)
      have wk := wk hk2
      conv => whnf
      repeat' (first
        | (refine codeK_sound good (mu := []) ?_; conv => whnf)
        | ((first | rw [wl0] | rw [wl1] | rw [wl2] | rw [wl3] | rw [wl4] | rw [wl5]); conv => whnf)
        | (rw [wk]; conv => whnf)
        | (refine SBool.mk (fun _ => ?_) (fun h => absurd (of_decide_eq_true rfl) h); conv => whnf)
        | (refine SBool.mk (fun h => absurd h (of_decide_eq_false rfl)) (fun _ => ?_); conv => whnf)
        | (refine SBool.mk (fun h => ?_) (fun h => ?_) <;> conv => whnf)
        | (refine SEx.mk _ (by first | exact hs0) ?_; conv => whnf)
        | (refine SEx.mk _ (by first | exact rfl | exact ⟨of_decide_eq_true rfl, rfl⟩) ?_; conv => whnf)
        | (refine SAll.mk (fun _ => ?_); conv => whnf)
        | (refine SAnd.mk (by first | exact hs0) ?_; conv => whnf)
        | (refine SAnd.mk ⟨by intro c hc; simp at hc; first | (subst hc; rfl) | ((repeat' (rcases hc with rfl | hc)) <;> first | rfl | (subst hc; rfl)), by (simp; first | done | omega), by (simp; first | done | omega)⟩ ?_; conv => whnf)
        | (refine SAnd.mk (by first | exact rfl | kernel_rfl | omega | decide | exact hs0) ?_; conv => whnf)
        | fail)
      refine ⟨⟨k + 1, by omega, by omega⟩, by simp only; omega, ?_⟩
      skip
      · refine SLe.of [(0, 0)] [] rfl rfl ?_
        conv => whnf
        repeat' (first
        | exact True.intro
        | (refine SAnd.mk (PLe.of_eq (by simp only [wrapK]; rw [wrap_id (by first | omega | (simp only; done) | (simp only; omega) | simp) (by first | omega | (simp only; done) | (simp only; omega) | simp)]; simp)) ?_; conv => whnf)
        | (refine SAnd.mk (PLe.refl _) ?_; conv => whnf)
        | (refine SAnd.mk (PLeL.refl _) ?_; conv => whnf)
        | (refine SAnd.mk (PLe.of_eq (by simp)) ?_; conv => whnf)
        | (refine SAnd.mk rfl ?_; conv => whnf)
        | (refine SAnd.mk ⟨rfl, rfl⟩ ?_; conv => whnf)
        | (refine SAnd.mk ⟨rfl, rfl, rfl⟩ ?_; conv => whnf))
    · conv => whnf
      conv => whnf
      repeat' (first
        | (refine codeK_sound good (mu := []) ?_; conv => whnf)
        | ((first | rw [wl0] | rw [wl1] | rw [wl2] | rw [wl3] | rw [wl4] | rw [wl5]); conv => whnf)
        | (rw [wk1]; conv => whnf)
        | (refine SBool.mk (fun _ => ?_) (fun h => absurd (of_decide_eq_true rfl) h); conv => whnf)
        | (refine SBool.mk (fun h => absurd h (of_decide_eq_false rfl)) (fun _ => ?_); conv => whnf)
        | (refine SBool.mk (fun h => ?_) (fun h => ?_) <;> conv => whnf)
        | (refine SEx.mk _ (by first | exact rfl | exact ⟨of_decide_eq_true rfl, rfl⟩) ?_; conv => whnf)
        | (refine SAll.mk (fun _ => ?_); conv => whnf)
        | (refine SAnd.mk ⟨by intro c hc; simp at hc; first | (subst hc; rfl) | ((repeat' (rcases hc with rfl | hc)) <;> first | rfl | (subst hc; rfl)), by (simp; first | done | omega), by (simp; first | done | omega)⟩ ?_; conv => whnf)
        | (refine SAnd.mk (by first | exact rfl | kernel_rfl | omega | decide) ?_; conv => whnf)
        | fail)
      · refine SLe.of [] [] rfl rfl ?_
        conv => whnf
        repeat' (first
        | exact True.intro
        | (refine SAnd.mk (PLe.of_eq (by simp only [wrapK]; rw [wrap_id (by first | omega | (simp only; done) | (simp only; omega) | simp) (by first | omega | (simp only; done) | (simp only; omega) | simp)]; simp)) ?_; conv => whnf)
        | (refine SAnd.mk (PLe.refl _) ?_; conv => whnf)
        | (refine SAnd.mk (PLeL.refl _) ?_; conv => whnf)
        | (refine SAnd.mk (PLe.of_eq (by simp)) ?_; conv => whnf)
        | (refine SAnd.mk rfl ?_; conv => whnf)
        | (refine SAnd.mk ⟨rfl, rfl⟩ ?_; conv => whnf)
        | (refine SAnd.mk ⟨rfl, rfl, rfl⟩ ?_; conv => whnf))
theorem end_zero {m : Int} (xs : List Sg) (hl : xs.length ≤ 10) (qs : List Sp) (j f t : Nat) (h2 : f < t) (h3 : t ≤ xs.length) (hz : ∀ k, f ≤ k → k < t → zeroP xs k = true) : AWp (C m) Tryz.f13.ntmps pEnd (postF m xs qs j t) (stE xs qs j f f t) := by
  have wk1 : wrapK IntKind.i64 ((f : Int) + 1) = f + 1 := w64 (by omega)
  have wk2 : wrapK IntKind.i64 ((f : Int) + 2) = f + 2 := w64 (by omega)
  have hs0 := zero_some (k := f) (by omega) (hz f (Nat.le_refl _) h2)
  have hs1' : (t : Int) = (f : Int) + 2 → 0 ≤ (f : Int) + 1 ∧ (cells1 (xs.map sgn))[((f : Int) + 1).toNat]? = some [I 0] := fun e => zero_some1 (by omega) (hz (f + 1) (by omega) (by omega))
  have hw : ¬ wrapK IntKind.i64 (0 * 0) < 0 := by rw [show wrapK IntKind.i64 (0 * 0) = 0 by kernel_rfl]; decide
  have last := end_zero2 (m := m) xs hl qs j f t h2 h3 hz
  refine codeN_sound good (mu := []) (n := 2) ?_
  conv => whnf
  repeat' (first
    | (refine codeK_sound good (mu := []) ?_; conv => whnf)
    | ((first | rw [wl0] | rw [wl1] | rw [wl2] | rw [wl3] | rw [wl4] | rw [wl5]); conv => whnf)
    | (rw [wk2]; conv => whnf)
    | (rw [wk1]; conv => whnf)
    | (refine SBool.mk (fun _ => ?_) (fun h => absurd (of_decide_eq_true rfl) h); conv => whnf)
    | (refine SBool.mk (fun h => absurd h (of_decide_eq_false rfl)) (fun _ => ?_); conv => whnf)
    | (refine SBool.mk (fun h => ?_) (fun h => ?_) <;> conv => whnf)
    | (refine SEx.mk _ (by first | exact hs0 | exact hs1' (by assumption)) ?_; conv => whnf)
    | (refine SEx.mk _ (by first | exact rfl | exact ⟨of_decide_eq_true rfl, rfl⟩) ?_; conv => whnf)
    | (refine SAll.mk (fun _ => ?_); conv => whnf)
    | (refine SAnd.mk (by first | exact hs0) ?_; conv => whnf)
    | (refine SAnd.mk ⟨by intro c hc; simp at hc; first | (subst hc; rfl) | ((repeat' (rcases hc with rfl | hc)) <;> first | rfl | (subst hc; rfl)), by (simp; first | done | omega), by (simp; first | done | omega)⟩ ?_; conv => whnf)
    | (refine SAnd.mk (by first | exact rfl | kernel_rfl | omega | decide | exact hs0 | exact hs1' (by assumption)) ?_; conv => whnf)
    | fail)
  all_goals first
    | exact absurd (by assumption) hw
    | refine ⟨AWp.le ?_ last⟩
  all_goals
    skip
    · refine SLe.of [(0, 0)] [] rfl rfl ?_
      conv => whnf
      repeat' (first
      | exact True.intro
      | (refine SAnd.mk (PLe.of_eq (by simp only [wrapK]; rw [wrap_id (by first | omega | (simp only; done) | (simp only; omega) | simp) (by first | omega | (simp only; done) | (simp only; omega) | simp)]; simp)) ?_; conv => whnf)
      | (refine SAnd.mk (PLe.refl _) ?_; conv => whnf)
      | (refine SAnd.mk (PLeL.refl _) ?_; conv => whnf)
      | (refine SAnd.mk (PLe.of_eq (by simp)) ?_; conv => whnf)
      | (refine SAnd.mk rfl ?_; conv => whnf)
      | (refine SAnd.mk ⟨rfl, rfl⟩ ?_; conv => whnf)
      | (refine SAnd.mk ⟨rfl, rfl, rfl⟩ ?_; conv => whnf))
/-- Where the span is a crossing. -/
theorem end_cross2 {m : Int} (xs : List Sg) (hl : xs.length ≤ 10) (qs : List Sp) (j f : Nat) (h3 : f + 2 ≤ xs.length) (hz : zeroP xs f = false) : AWp (C m) Tryz.f13.ntmps pEnd2 (postF m xs qs j (f + 1)) (stG xs qs j f f (f + 2) true) := by
  have wk1 : wrapK IntKind.i64 ((f : Int) + 1) = f + 1 := w64 (by omega)
  have wk2 : wrapK IntKind.i64 ((f : Int) + 1 + 1) = f + 1 + 1 := w64 (by omega)
  have hs0 := sgn_some xs (k := f) (by omega)
  have hn : ¬ sgn xs[f] = 0 := by rw [zero_at (by omega : f < xs.length)] at hz; simpa using hz
  have hmax : max (f : Int) ((f : Int) + 1) = ((f + 1 : Nat) : Int) := by omega
  have e2 : ((f + 2 : Nat) : Int) = (f : Int) + 2 := by omega
  have b1 : (f : Int) < (f : Int) + 2 := by omega
  have b2 : (f : Int) + 1 < (f : Int) + 2 := by omega
  have b3 : ¬ (f : Int) + 1 + 1 < (f : Int) + 2 := by omega
  unfold stG
  rw [e2]
  refine codeK_sound good (mu := []) ?_
  conv => whnf
  repeat' (first
    | (refine codeK_sound good (mu := []) ?_; conv => whnf)
    | ((first | rw [wl0] | rw [wl1] | rw [wl2] | rw [wl3] | rw [wl4] | rw [wl5]); conv => whnf)
    | (rw [wk2]; conv => whnf)
    | (rw [wk1]; conv => whnf)
    | (refine SBool.mk (fun _ => ?_) (fun h => absurd (of_decide_eq_true rfl) h); conv => whnf)
    | (refine SBool.mk (fun h => absurd h (of_decide_eq_false rfl)) (fun _ => ?_); conv => whnf)
    | (refine SBool.mk (fun h => ?_) (fun h => ?_) <;> conv => whnf)
    | refine SCode.mk (AWp.rounds 3 ?_)
    | (refine SEx.mk _ (by first | exact hs0) ?_; conv => whnf)
    | (refine SEx.mk _ (by first | exact rfl | exact ⟨of_decide_eq_true rfl, rfl⟩) ?_; conv => whnf)
    | (refine SAll.mk (fun _ => ?_); conv => whnf)
    | (refine SAnd.mk (by first | exact hs0) ?_; conv => whnf)
    | (refine SAnd.mk ⟨by intro c hc; simp at hc; first | (subst hc; rfl) | ((repeat' (rcases hc with rfl | hc)) <;> first | rfl | (subst hc; rfl)), by (simp; first | done | omega), by (simp; first | done | omega)⟩ ?_; conv => whnf)
    | (refine SAnd.mk (by first | exact rfl | kernel_rfl | omega | decide | exact hs0) ?_; conv => whnf)
    | fail)
  all_goals first
    | exact absurd (by assumption) hn
    | exact absurd (by assumption) b3
    | exact absurd b1 (by assumption)
    | exact absurd b2 (by assumption)
    | skip
  all_goals
    skip
    · refine SLe.of [] [] rfl rfl ?_
      conv => whnf
      repeat' (first
      | exact True.intro
      | (refine SAnd.mk (PLe.of_eq (by rw [hmax])) ?_; conv => whnf)
      | (refine SAnd.mk (PLe.of_eq (by simp only [wrapK]; rw [wrap_id (by first | omega | (simp only; done) | (simp only; omega) | simp) (by first | omega | (simp only; done) | (simp only; omega) | simp)]; simp)) ?_; conv => whnf)
      | (refine SAnd.mk (PLe.refl _) ?_; conv => whnf)
      | (refine SAnd.mk (PLeL.refl _) ?_; conv => whnf)
      | (refine SAnd.mk (PLe.of_eq (by simp)) ?_; conv => whnf)
      | (refine SAnd.mk rfl ?_; conv => whnf)
      | (refine SAnd.mk ⟨rfl, rfl⟩ ?_; conv => whnf)
      | (refine SAnd.mk ⟨rfl, rfl, rfl⟩ ?_; conv => whnf))
theorem end_cross {m : Int} (xs : List Sg) (hl : xs.length ≤ 10) (qs : List Sp) (j f : Nat) (h3 : f + 2 ≤ xs.length) (hx : crossB xs (f + 1) = true) (hz : zeroP xs f = false) : AWp (C m) Tryz.f13.ntmps pEnd (postF m xs qs j (f + 1)) (stE xs qs j f f (f + 2)) := by
  have wk1 : wrapK IntKind.i64 ((f : Int) + 1) = f + 1 := w64 (by omega)
  have wk2 : wrapK IntKind.i64 ((f : Int) + 2) = f + 2 := w64 (by omega)
  have hs0 := sgn_some xs (k := f) (by omega)
  have hs1 := sgn_some1 xs (k := f) (by omega)
  have hmu := sgn_mul xs (i := f) (j := f + 1) (by omega) (by omega)
  have hc : sgn xs[f] * sgn xs[f + 1] < 0 := by rw [cross_at (by omega)] at hx; simpa using hx
  have e2 : ((f + 2 : Nat) : Int) = (f : Int) + 2 := by omega
  have last := end_cross2 (m := m) xs hl qs j f h3 hz
  unfold stG at last
  rw [e2] at last
  unfold stE
  rw [e2]
  refine codeN_sound good (mu := []) (n := 2) ?_
  conv => whnf
  repeat' (first
    | (refine codeK_sound good (mu := []) ?_; conv => whnf)
    | ((first | rw [wl0] | rw [wl1] | rw [wl2] | rw [wl3] | rw [wl4] | rw [wl5]); conv => whnf)
    | (rw [wk2]; conv => whnf)
    | (rw [wk1]; conv => whnf)
    | (rw [hmu]; conv => whnf)
    | (refine SBool.mk (fun _ => ?_) (fun h => absurd (of_decide_eq_true rfl) h); conv => whnf)
    | (refine SBool.mk (fun h => absurd h (of_decide_eq_false rfl)) (fun _ => ?_); conv => whnf)
    | (refine SBool.mk (fun h => ?_) (fun h => ?_) <;> conv => whnf)
    | (refine SEx.mk _ (by first | exact hs0 | exact hs1) ?_; conv => whnf)
    | (refine SEx.mk _ (by first | exact rfl | exact ⟨of_decide_eq_true rfl, rfl⟩) ?_; conv => whnf)
    | (refine SAll.mk (fun _ => ?_); conv => whnf)
    | (refine SAnd.mk (by first | exact hs0 | exact hs1) ?_; conv => whnf)
    | (refine SAnd.mk ⟨by intro c hc; simp at hc; first | (subst hc; rfl) | ((repeat' (rcases hc with rfl | hc)) <;> first | rfl | (subst hc; rfl)), by (simp; first | done | omega), by (simp; first | done | omega)⟩ ?_; conv => whnf)
    | (refine SAnd.mk (by first | exact rfl | kernel_rfl | omega | decide | exact hs0 | exact hs1) ?_; conv => whnf)
    | fail)
  all_goals first
    | exact absurd hc (by assumption)
    | exact absurd rfl (by assumption)
    | refine ⟨AWp.le ?_ last⟩
  all_goals
    skip
    · refine SLe.of [(0, 0)] [] rfl rfl ?_
      conv => whnf
      repeat' (first
      | exact True.intro
      | (refine SAnd.mk (PLe.of_eq (by simp only [wrapK]; rw [wrap_id (by first | omega | (simp only; done) | (simp only; omega) | simp) (by first | omega | (simp only; done) | (simp only; omega) | simp)]; simp)) ?_; conv => whnf)
      | (refine SAnd.mk (PLe.refl _) ?_; conv => whnf)
      | (refine SAnd.mk (PLeL.refl _) ?_; conv => whnf)
      | (refine SAnd.mk (PLe.of_eq (by simp)) ?_; conv => whnf)
      | (refine SAnd.mk rfl ?_; conv => whnf)
      | (refine SAnd.mk ⟨rfl, rfl⟩ ?_; conv => whnf)
      | (refine SAnd.mk ⟨rfl, rfl, rfl⟩ ?_; conv => whnf))
/-- The body of the loop over the spans. -/
noncomputable def pBody : Code := pieceAt [1,1,1,1,1,1,1,0,1,0,0,1,1,0,0] pTail
set_option maxHeartbeats 8000000 in
theorem body_ok {m : Int} (xs : List Sg) (hl : xs.length ≤ 10) (qs : List Sp) (j i f t : Nat) (hjl : j < qs.length) (hqn : qs.length ≤ xs.length) (hqj : qs[j] = ((f : Int), (t : Int))) (h1 : i ≤ f) (h2 : f < t) (h3 : t ≤ xs.length)
    (hcl : ∀ k, i ≤ k → k < f → clean xs k) (i' : Nat) (last : AWp (C m) Tryz.f13.ntmps pEnd (postF m xs qs j i') (stE xs qs j f f t)) : AWp (C m) Tryz.f13.ntmps pBody (postF m xs qs j i') (stF xs qs j i) := by
  have e0 : (xs.map sc).length = xs.length := by simp
  have hs : 0 ≤ (j : Int) ∧ (cellsP qs)[((j : Int)).toNat]? = some [I f, I t] := ⟨by omega, by show (cellsP qs)[j]? = _; simp [hjl, hqj]⟩
  have a1 : ¬ ((xs.map sc).length : Int) < (t : Int) := by rw [e0]; omega
  have a2 : ¬ (t : Int) ≤ (f : Int) := by omega
  have a3 : ¬ (f : Int) < 0 := by omega
  have a4 : (f : Int) + 1 < ((xs.map sc).length : Int) ∨ True := .inr trivial
  refine codeN_sound good (mu := []) (n := 3) ?_
  conv => whnf
  repeat' (first
    | (refine codeK_sound good (mu := []) ?_; conv => whnf)
    | ((first | rw [wl0] | rw [wl1] | rw [wl2] | rw [wl3] | rw [wl4] | rw [wl5]); conv => whnf)
    | (refine SBool.mk (fun _ => ?_) (fun h => absurd (of_decide_eq_true rfl) h); conv => whnf)
    | (refine SBool.mk (fun h => absurd h (of_decide_eq_false rfl)) (fun _ => ?_); conv => whnf)
    | (refine SBool.mk (fun h => ?_) (fun h => ?_) <;> conv => whnf)
    | (refine SEx.mk _ (by first | exact hs) ?_; conv => whnf)
    | (refine SEx.mk _ (by first | exact rfl | exact ⟨of_decide_eq_true rfl, rfl⟩) ?_; conv => whnf)
    | (refine SAll.mk (fun _ => ?_); conv => whnf)
    | (refine SAnd.mk (by first | exact hs) ?_; conv => whnf)
    | (refine SAnd.mk ⟨by intro c hc; simp at hc; first | (subst hc; rfl) | ((repeat' (rcases hc with rfl | hc)) <;> first | rfl | (subst hc; rfl)), by (simp; first | done | omega), by (simp; first | done | omega)⟩ ?_; conv => whnf)
    | (refine SAnd.mk (by first | exact rfl | kernel_rfl | omega | decide | exact hs) ?_; conv => whnf)
    | fail)
  all_goals first
    | exact absurd (by assumption) a1
    | exact absurd (by assumption) a2
    | exact absurd (by assumption) a3
    | skip
  refine ⟨AWp.loop (ι := { k : Nat // i ≤ k ∧ k ≤ f }) (fun k => stE xs qs j k.1 f t) (fun k => f - k.1) ⟨i, Nat.le_refl _, h1⟩ ?_ ?_⟩
  · skip
    · refine SLe.of [(0, 0)] [] rfl rfl ?_
      conv => whnf
      repeat' (first
      | exact True.intro
      | (refine SAnd.mk (PLe.of_eq (by simp only [wrapK]; rw [wrap_id (by first | omega | (simp only; done) | (simp only; omega) | simp) (by first | omega | (simp only; done) | (simp only; omega) | simp)]; simp)) ?_; conv => whnf)
      | (refine SAnd.mk (PLe.refl _) ?_; conv => whnf)
      | (refine SAnd.mk (PLeL.refl _) ?_; conv => whnf)
      | (refine SAnd.mk (PLe.of_eq (by simp)) ?_; conv => whnf)
      | (refine SAnd.mk rfl ?_; conv => whnf)
      | (refine SAnd.mk ⟨rfl, rfl⟩ ?_; conv => whnf)
      | (refine SAnd.mk ⟨rfl, rfl, rfl⟩ ?_; conv => whnf))
  · rintro ⟨k, hik, hkf⟩
    refine codeK_sound good (mu := []) ?_
    conv => whnf
    refine SBool.mk (fun hq2 => ?_) (fun hq2 => ?_)
    · conv => whnf
      have hkf2 : k < f := by simpa using hq2
      have hk1 : k + 1 < xs.length := by omega
      have hk0 : k < xs.length := by omega
      have n3 : (k : Int) + 1 < ((xs.map sc).length : Int) := by rw [e0]; omega
      have m1 : k + 1 ≤ f := by omega
      have m2 : f - (k + 1) < f - k := by omega
      have m3 : i ≤ k + 1 := by omega
      have wk : wrapK IntKind.i64 ((k : Int) + 1) = k + 1 := w64 (by omega)
      have hcl2 := clean_at hk0 (hcl k hik hkf2)
      have n1 := hcl2.1
      have n2 := hcl2.2 hk1
      have hs0 := sgn_some xs hk0
      have hs1 := sgn_some1 xs hk1
      have hmu := sgn_mul xs hk0 hk1
      clear hcl2
      generalize sgn xs[k] = a at hs0 hmu n1 n2
      generalize sgn xs[k + 1] = b at hs1 hmu n2
      conv => whnf
      repeat' (first
        | (refine codeK_sound good (mu := []) ?_; conv => whnf)
        | ((first | rw [wl0] | rw [wl1] | rw [wl2] | rw [wl3] | rw [wl4] | rw [wl5]); conv => whnf)
        | (rw [wk]; conv => whnf)
        | (rw [hmu]; conv => whnf)
        | (refine SBool.mk (fun _ => ?_) (fun h => absurd (of_decide_eq_true rfl) h); conv => whnf)
        | (refine SBool.mk (fun h => absurd h (of_decide_eq_false rfl)) (fun _ => ?_); conv => whnf)
        | (refine SBool.mk (fun h => ?_) (fun h => ?_) <;> conv => whnf)
        | (refine SEx.mk _ (by first | exact hs0 | exact hs1) ?_; conv => whnf)
        | (refine SEx.mk _ (by first | exact rfl | exact ⟨of_decide_eq_true rfl, rfl⟩) ?_; conv => whnf)
        | (refine SAll.mk (fun _ => ?_); conv => whnf)
        | (refine SAnd.mk (by first | exact hs0 | exact hs1) ?_; conv => whnf)
        | (refine SAnd.mk ⟨by intro c hc; simp at hc; first | (subst hc; rfl) | ((repeat' (rcases hc with rfl | hc)) <;> first | rfl | (subst hc; rfl)), by (simp; first | done | omega), by (simp; first | done | omega)⟩ ?_; conv => whnf)
        | (refine SAnd.mk (by first | exact rfl | kernel_rfl | omega | decide | exact hs0 | exact hs1) ?_; conv => whnf)
        | fail)
      all_goals clear wk hmu hs0 hs1
      all_goals first
        | exact absurd (by assumption) n1
        | exact absurd (by assumption) n2
        | exact absurd n3 (by assumption)
        | refine ⟨⟨k + 1, m3, m1⟩, m2, ?_⟩
      skip
      · refine SLe.of [(0, 0)] [] rfl rfl ?_
        conv => whnf
        repeat' (first
        | exact True.intro
        | (refine SAnd.mk (PLe.of_eq (by simp only [wrapK]; rw [wrap_id (by first | omega | (simp only; done) | (simp only; omega) | simp) (by first | omega | (simp only; done) | (simp only; omega) | simp)]; simp)) ?_; conv => whnf)
        | (refine SAnd.mk (PLe.refl _) ?_; conv => whnf)
        | (refine SAnd.mk (PLeL.refl _) ?_; conv => whnf)
        | (refine SAnd.mk (PLe.of_eq (by simp)) ?_; conv => whnf)
        | (refine SAnd.mk rfl ?_; conv => whnf)
        | (refine SAnd.mk ⟨rfl, rfl⟩ ?_; conv => whnf)
        | (refine SAnd.mk ⟨rfl, rfl, rfl⟩ ?_; conv => whnf))
    · conv => whnf
      have hkf3 : f = k := by
        have : ¬ (k : Int) < (f : Int) := hq2
        omega
      refine ⟨AWp.le ?_ last⟩
      skip
      · refine SLe.of [(0, 0)] [] rfl rfl ?_
        conv => whnf
        repeat' (first
        | exact True.intro
        | (refine SAnd.mk (PLe.of_eq (congrArg (fun n : Nat => I (n : Int)) hkf3.symm)) ?_; conv => whnf)
        | (refine SAnd.mk (PLe.of_eq (by simp only [wrapK]; rw [wrap_id (by first | omega | (simp only; done) | (simp only; omega) | simp) (by first | omega | (simp only; done) | (simp only; omega) | simp)]; simp)) ?_; conv => whnf)
        | (refine SAnd.mk (PLe.refl _) ?_; conv => whnf)
        | (refine SAnd.mk (PLeL.refl _) ?_; conv => whnf)
        | (refine SAnd.mk (PLe.of_eq (by simp)) ?_; conv => whnf)
        | (refine SAnd.mk rfl ?_; conv => whnf)
        | (refine SAnd.mk ⟨rfl, rfl⟩ ?_; conv => whnf)
        | (refine SAnd.mk ⟨rfl, rfl, rfl⟩ ?_; conv => whnf))
end Go.Proofs.Ab.Tone2
end
section
/- The law of what agrees: the loop over the spans, and the last look. -/
set_option maxRecDepth 100000
set_option linter.unusedVariables false
set_option linter.unusedSimpArgs false
namespace Go.Proofs.Ab.Tone2
open Go Go.RowKit Go.Proofs.Ab Go.Proofs.Ab.Tone
abbrev stC (xs : List Sg) (qs : List Sp) (i : Nat) : AS := ⟨[(37, .p (I i)), (29, .p (.seq 6 (xs.map sc))), (30, .p (seqP qs)), (32, .p (sgnP xs))], [], [], 0, [], [], []⟩
abbrev stD (xs : List Sg) (i : Nat) : AS := ⟨[(37, .p (I i)), (29, .p (.seq 6 (xs.map sc))), (32, .p (sgnP xs))], [], [], 0, [], [], []⟩
theorem span_next {m : Int} (xs : List Sg) (hl : xs.length ≤ 10) (qs : List Sp) (j i : Nat) (hjl : j < qs.length) (hcov : Cov xs i (qs.drop j)) : ∃ (f t i' : Nat), qs[j] = ((f : Int), (t : Int)) ∧ i ≤ f ∧ f < t ∧ t ≤ xs.length ∧ (∀ k, i ≤ k → k < f → clean xs k) ∧ i' ≤ xs.length ∧ Cov xs i' (qs.drop (j + 1)) ∧
    AWp (C m) Tryz.f13.ntmps pEnd (postF m xs qs j i') (stE xs qs j f f t) := by
  rw [List.drop_eq_getElem_cons hjl] at hcov
  obtain ⟨f, t, hqj, h1, h2, h3, hcl, hnx⟩ := hcov.next
  rcases hnx with ⟨hz, hcv⟩ | ⟨ht, hx, hz, hcv⟩
  · exact ⟨f, t, t, hqj, h1, h2, h3, hcl, h3, hcv, end_zero xs hl qs j f t h2 h3 hz⟩
  · subst ht
    exact ⟨f, f + 2, f + 1, hqj, h1, h2, h3, hcl, by omega, hcv, end_cross xs hl qs j f h3 hx hz⟩
set_option maxHeartbeats 8000000 in
theorem loopB {m : Int} (xs : List Sg) (hl : xs.length ≤ 10) (qs : List Sp) (hqs : Cov xs 0 qs) : AWp (C m) Tryz.f13.ntmps (pieceAt [1,1,1,1,1,1,1,0] pTail)
    (fun e s' => match e with | .normal => ∃ i : Nat, i ≤ xs.length ∧ Cov xs i [] ∧ SLe (C m) Tryz.f13.ntmps s' (stD xs i) | _ => False) (stC xs qs 0) := by
  have hqn := hqs.len (Nat.zero_le _)
  refine codeK_sound good (mu := []) ?_
  conv => whnf
  refine ⟨AWp.loop (ι := { p : Nat × Nat // p.1 ≤ qs.length ∧ p.2 ≤ xs.length ∧ Cov xs p.2 (qs.drop p.1) }) (fun p => stF xs qs p.1.1 p.1.2) (fun p => qs.length - p.1.1) ⟨(0, 0), by simp, by simp, by simpa using hqs⟩ ?_ ?_⟩
  · skip
    · refine SLe.of [] [] rfl rfl ?_
      conv => whnf
      repeat' (first
      | exact True.intro
      | (refine SAnd.mk (PLe.of_eq (by simp only [wrapK]; rw [wrap_id (by first | omega | (simp only; done) | (simp only; omega) | simp) (by first | omega | (simp only; done) | (simp only; omega) | simp)]; simp)) ?_; conv => whnf)
      | (refine SAnd.mk (PLe.refl _) ?_; conv => whnf)
      | (refine SAnd.mk (PLeL.refl _) ?_; conv => whnf)
      | (refine SAnd.mk (PLe.of_eq (by simp)) ?_; conv => whnf)
      | (refine SAnd.mk rfl ?_; conv => whnf)
      | (refine SAnd.mk ⟨rfl, rfl⟩ ?_; conv => whnf)
      | (refine SAnd.mk ⟨rfl, rfl, rfl⟩ ?_; conv => whnf))
  · rintro ⟨⟨j, i⟩, hj, hi, hcov⟩
    simp only at hj hi hcov
    by_cases hjl : j < qs.length
    · obtain ⟨f, t, i', hqj, h1, h2, h3, hcl, hi', hcov', last⟩ := span_next (m := m) xs hl qs j i hjl hcov
      have wj : wrapK IntKind.i64 ((j : Int) + 1) = j + 1 := w64 (by omega)
      have m1 : j + 1 ≤ qs.length := by omega
      have m2 : qs.length - (j + 1) < qs.length - j := by omega
      have hb := body_ok xs hl qs j i f t hjl (by omega) hqj h1 h2 h3 hcl i' last
      clear last
      refine codeN_sound good (mu := []) (n := 2) ?_
      conv => whnf
      refine SBool.mk (fun hq => ?_) (fun hq => absurd (show (j : Int) < (qs.length : Int) by omega) hq)
      conv => whnf
      refine ⟨AWp.le ?_ (AWp.seq (AWp.block (hb.mono fun e s' h => ?_)))⟩
      · skip
        · refine SLe.of [] [] rfl rfl ?_
          conv => whnf
          repeat' (first
          | exact True.intro
          | (refine SAnd.mk (PLe.of_eq (by simp only [wrapK]; rw [wrap_id (by first | omega | (simp only; done) | (simp only; omega) | simp) (by first | omega | (simp only; done) | (simp only; omega) | simp)]; simp)) ?_; conv => whnf)
          | (refine SAnd.mk (PLe.refl _) ?_; conv => whnf)
          | (refine SAnd.mk (PLeL.refl _) ?_; conv => whnf)
          | (refine SAnd.mk (PLe.of_eq (by simp)) ?_; conv => whnf)
          | (refine SAnd.mk rfl ?_; conv => whnf)
          | (refine SAnd.mk ⟨rfl, rfl⟩ ?_; conv => whnf)
          | (refine SAnd.mk ⟨rfl, rfl, rfl⟩ ?_; conv => whnf))
      · cases e with
        | normal =>
          refine AWp.le h (codeK_sound good (mu := []) ?_)
          conv => whnf
          repeat' (first
            | (refine codeK_sound good (mu := []) ?_; conv => whnf)
            | ((first | rw [wl0] | rw [wl1] | rw [wl2] | rw [wl3] | rw [wl4] | rw [wl5]); conv => whnf)
            | (rw [wj]; conv => whnf)
            | (refine SBool.mk (fun _ => ?_) (fun h => absurd (of_decide_eq_true rfl) h); conv => whnf)
            | (refine SBool.mk (fun h => absurd h (of_decide_eq_false rfl)) (fun _ => ?_); conv => whnf)
            | (refine SBool.mk (fun h => ?_) (fun h => ?_) <;> conv => whnf)
            | (refine SEx.mk _ (by first | exact rfl | exact ⟨of_decide_eq_true rfl, rfl⟩) ?_; conv => whnf)
            | (refine SAll.mk (fun _ => ?_); conv => whnf)
            | (refine SAnd.mk ⟨by intro c hc; simp at hc; first | (subst hc; rfl) | ((repeat' (rcases hc with rfl | hc)) <;> first | rfl | (subst hc; rfl)), by (simp; first | done | omega), by (simp; first | done | omega)⟩ ?_; conv => whnf)
            | (refine SAnd.mk (by first | exact rfl | kernel_rfl | omega | decide) ?_; conv => whnf)
            | fail)
          refine ⟨⟨(j + 1, i'), m1, hi', hcov'⟩, m2, ?_⟩
          skip
          · refine SLe.of [] [] rfl rfl ?_
            conv => whnf
            repeat' (first
            | exact True.intro
            | (refine SAnd.mk (PLe.of_eq (by simp only [wrapK]; rw [wrap_id (by first | omega | (simp only; done) | (simp only; omega) | simp) (by first | omega | (simp only; done) | (simp only; omega) | simp)]; simp)) ?_; conv => whnf)
            | (refine SAnd.mk (PLe.refl _) ?_; conv => whnf)
            | (refine SAnd.mk (PLeL.refl _) ?_; conv => whnf)
            | (refine SAnd.mk (PLe.of_eq (by simp)) ?_; conv => whnf)
            | (refine SAnd.mk rfl ?_; conv => whnf)
            | (refine SAnd.mk ⟨rfl, rfl⟩ ?_; conv => whnf)
            | (refine SAnd.mk ⟨rfl, rfl, rfl⟩ ?_; conv => whnf))
        | ret => exact h.elim
        | exit k => exact h.elim
    · have hjn : j = qs.length := by omega
      subst hjn
      refine codeN_sound good (mu := []) (n := 2) ?_
      conv => whnf
      refine SBool.mk (fun hq => absurd hq (by simp)) (fun hq => ?_)
      conv => whnf
      refine ⟨i, hi, by simpa using hcov, ?_⟩
      skip
      · refine SLe.of [] [] rfl rfl ?_
        conv => whnf
        repeat' (first
        | exact True.intro
        | (refine SAnd.mk (PLe.of_eq (by simp only [wrapK]; rw [wrap_id (by first | omega | (simp only; done) | (simp only; omega) | simp) (by first | omega | (simp only; done) | (simp only; omega) | simp)]; simp)) ?_; conv => whnf)
        | (refine SAnd.mk (PLe.refl _) ?_; conv => whnf)
        | (refine SAnd.mk (PLeL.refl _) ?_; conv => whnf)
        | (refine SAnd.mk (PLe.of_eq (by simp)) ?_; conv => whnf)
        | (refine SAnd.mk rfl ?_; conv => whnf)
        | (refine SAnd.mk ⟨rfl, rfl⟩ ?_; conv => whnf)
        | (refine SAnd.mk ⟨rfl, rfl, rfl⟩ ?_; conv => whnf))
/-- The last look: nothing is left out behind the last span. -/
theorem loopC {m : Int} (xs : List Sg) (hl : xs.length ≤ 10) (i : Nat) (hi : i ≤ xs.length) (hc : Cov xs i []) : AWp (C m) Tryz.f13.ntmps (pieceAt [1,1,1,1,1,1,1,1] pTail) (endTrue m [ResultVar.tmp 6]) (stD xs i) := by
  have e0 : (xs.map sc).length = xs.length := by simp
  refine codeK_sound good (mu := []) ?_
  conv => whnf
  refine ⟨AWp.loop (ι := { k : Nat // i ≤ k ∧ k ≤ xs.length }) (fun k => stD xs k.1) (fun k => xs.length - k.1) ⟨i, Nat.le_refl _, hi⟩ ?_ ?_⟩
  · skip
    · refine SLe.of [] [] rfl rfl ?_
      conv => whnf
      repeat' (first
      | exact True.intro
      | (refine SAnd.mk (PLe.of_eq (by simp only [wrapK]; rw [wrap_id (by first | omega | (simp only; done) | (simp only; omega) | simp) (by first | omega | (simp only; done) | (simp only; omega) | simp)]; simp)) ?_; conv => whnf)
      | (refine SAnd.mk (PLe.refl _) ?_; conv => whnf)
      | (refine SAnd.mk (PLeL.refl _) ?_; conv => whnf)
      | (refine SAnd.mk (PLe.of_eq (by simp)) ?_; conv => whnf)
      | (refine SAnd.mk rfl ?_; conv => whnf)
      | (refine SAnd.mk ⟨rfl, rfl⟩ ?_; conv => whnf)
      | (refine SAnd.mk ⟨rfl, rfl, rfl⟩ ?_; conv => whnf))
  · rintro ⟨k, hik, hk⟩
    refine codeK_sound good (mu := []) ?_
    conv => whnf
    refine SBool.mk (fun hq => ?_) (fun hq => ?_)
    · conv => whnf
      have hkl : k < xs.length := by simpa using hq
      have hcl := clean_at hkl (hc.done hik hkl)
      have hs := sgn_some xs hkl
      have wk : wrapK IntKind.i64 ((k : Int) + 1) = k + 1 := w64 (by omega)
      by_cases hk1 : k + 1 < xs.length
      · have hs1 := sgn_some1 xs hk1
        have hmu := sgn_mul xs hkl hk1
        conv => whnf
        repeat' (first
          | (refine codeK_sound good (mu := []) ?_; conv => whnf)
          | ((first | rw [wl0] | rw [wl1] | rw [wl2] | rw [wl3] | rw [wl4] | rw [wl5]); conv => whnf)
          | (rw [wk]; conv => whnf)
          | (rw [hmu]; conv => whnf)
          | (refine SBool.mk (fun _ => ?_) (fun h => absurd (of_decide_eq_true rfl) h); conv => whnf)
          | (refine SBool.mk (fun h => absurd h (of_decide_eq_false rfl)) (fun _ => ?_); conv => whnf)
          | (refine SBool.mk (fun h => ?_) (fun h => ?_) <;> conv => whnf)
          | (refine SEx.mk _ (by first | exact hs | exact hs1) ?_; conv => whnf)
          | (refine SEx.mk _ (by first | exact rfl | exact ⟨of_decide_eq_true rfl, rfl⟩) ?_; conv => whnf)
          | (refine SAll.mk (fun _ => ?_); conv => whnf)
          | (refine SAnd.mk (by first | exact hs | exact hs1) ?_; conv => whnf)
          | (refine SAnd.mk ⟨by intro c hc; simp at hc; first | (subst hc; rfl) | ((repeat' (rcases hc with rfl | hc)) <;> first | rfl | (subst hc; rfl)), by (simp; first | done | omega), by (simp; first | done | omega)⟩ ?_; conv => whnf)
          | (refine SAnd.mk (by first | exact rfl | kernel_rfl | omega | decide | exact hs | exact hs1) ?_; conv => whnf)
          | fail)
        all_goals first
          | exact absurd (by assumption) hcl.1
          | exact absurd (by assumption) (hcl.2 hk1)
          | exact absurd (show (k : Int) + 1 < ((xs.map sc).length : Int) by rw [e0]; omega) (by assumption)
          | refine ⟨⟨k + 1, by omega, by omega⟩, by simp only; omega, ?_⟩
        skip
        · refine SLe.of [] [] rfl rfl ?_
          conv => whnf
          repeat' (first
          | exact True.intro
          | (refine SAnd.mk (PLe.of_eq (by simp only [wrapK]; rw [wrap_id (by first | omega | (simp only; done) | (simp only; omega) | simp) (by first | omega | (simp only; done) | (simp only; omega) | simp)]; simp)) ?_; conv => whnf)
          | (refine SAnd.mk (PLe.refl _) ?_; conv => whnf)
          | (refine SAnd.mk (PLeL.refl _) ?_; conv => whnf)
          | (refine SAnd.mk (PLe.of_eq (by simp)) ?_; conv => whnf)
          | (refine SAnd.mk rfl ?_; conv => whnf)
          | (refine SAnd.mk ⟨rfl, rfl⟩ ?_; conv => whnf)
          | (refine SAnd.mk ⟨rfl, rfl, rfl⟩ ?_; conv => whnf))
      · skip
        conv => whnf
        repeat' (first
          | (refine codeK_sound good (mu := []) ?_; conv => whnf)
          | ((first | rw [wl0] | rw [wl1] | rw [wl2] | rw [wl3] | rw [wl4] | rw [wl5]); conv => whnf)
          | (rw [wk]; conv => whnf)
          | (refine SBool.mk (fun _ => ?_) (fun h => absurd (of_decide_eq_true rfl) h); conv => whnf)
          | (refine SBool.mk (fun h => absurd h (of_decide_eq_false rfl)) (fun _ => ?_); conv => whnf)
          | (refine SBool.mk (fun h => ?_) (fun h => ?_) <;> conv => whnf)
          | (refine SEx.mk _ (by first | exact hs) ?_; conv => whnf)
          | (refine SEx.mk _ (by first | exact rfl | exact ⟨of_decide_eq_true rfl, rfl⟩) ?_; conv => whnf)
          | (refine SAll.mk (fun _ => ?_); conv => whnf)
          | (refine SAnd.mk (by first | exact hs) ?_; conv => whnf)
          | (refine SAnd.mk ⟨by intro c hc; simp at hc; first | (subst hc; rfl) | ((repeat' (rcases hc with rfl | hc)) <;> first | rfl | (subst hc; rfl)), by (simp; first | done | omega), by (simp; first | done | omega)⟩ ?_; conv => whnf)
          | (refine SAnd.mk (by first | exact rfl | kernel_rfl | omega | decide | exact hs) ?_; conv => whnf)
          | fail)
        all_goals first
          | exact absurd (by assumption) hcl.1
          | exact absurd (show (k : Int) + 1 < ((xs.map sc).length : Int) by assumption) (by rw [e0]; omega)
          | refine ⟨⟨k + 1, by omega, by omega⟩, by simp only; omega, ?_⟩
        skip
        · refine SLe.of [] [] rfl rfl ?_
          conv => whnf
          repeat' (first
          | exact True.intro
          | (refine SAnd.mk (PLe.of_eq (by simp only [wrapK]; rw [wrap_id (by first | omega | (simp only; done) | (simp only; omega) | simp) (by first | omega | (simp only; done) | (simp only; omega) | simp)]; simp)) ?_; conv => whnf)
          | (refine SAnd.mk (PLe.refl _) ?_; conv => whnf)
          | (refine SAnd.mk (PLeL.refl _) ?_; conv => whnf)
          | (refine SAnd.mk (PLe.of_eq (by simp)) ?_; conv => whnf)
          | (refine SAnd.mk rfl ?_; conv => whnf)
          | (refine SAnd.mk ⟨rfl, rfl⟩ ?_; conv => whnf)
          | (refine SAnd.mk ⟨rfl, rfl, rfl⟩ ?_; conv => whnf))
    · conv => whnf
      exact ⟨PLe.refl _⟩
end Go.Proofs.Ab.Tone2
end
section
/- The law of what agrees: the signs. -/
set_option maxRecDepth 100000
set_option linter.unusedVariables false
set_option linter.unusedSimpArgs false
namespace Go.Proofs.Ab.Tone2
open Go Go.RowKit Go.Proofs.Ab Go.Proofs.Ab.Tone

abbrev sgnL (xs : List Sg) (k : Nat) : List Int := (xs.take k).map sgn ++ List.replicate (xs.length - k) 0
abbrev stA (xs : List Sg) : AS := ⟨[(29, .p (.seq 6 (xs.map sc))), (32, .own 0), (30, .p (seqP (crossL xs)))], [], [(0, (3, 1, List.replicate xs.length [I 0]))], 1, [], [], []⟩
abbrev stB (xs : List Sg) : AS := ⟨[(29, .p (.seq 6 (xs.map sc))), (32, .own 0), (30, .p (seqP (crossL xs)))], [], [(0, (3, 1, cells1 (xs.map sgn)))], 1, [], [], []⟩
theorem compare_zero {m : Int} {n d : Int} (hd : 0 < d) (hn : n.natAbs ≤ 4000000000) : APure (C m) 81 [.agg (rc (low n d)), .agg [I 0, I 1]] (I (cmp3 n 0)) := by
  have h1 := isLow (n := n) hd
  have h := up (m := m) (refCompare_raw (low n d).num (low n d).den 0 1)
  have e1 := h1.num
  rw [wrap_id (n := (low n d).num * 1) (by omega) (by omega), wrap_id (n := 0 * (low n d).den) (by omega) (by omega), Int.mul_one, Int.zero_mul] at h
  have e : cmp3 (low n d).num 0 = cmp3 n 0 := by
    have e2 := h1.eq
    have h3 := h1.den
    have := cmp3_of (A := (low n d).num) (B := 0) (C' := n) (D := 0) (P := d) (Q := (low n d).den) hd h3 e2 (by simp)
    exact this
  rw [← e]
  exact h
theorem sgnL_len (xs : List Sg) {k : Nat} (hk : k ≤ xs.length) : (sgnL xs k).length = xs.length := by simp [sgnL]; omega
theorem sgnL_succ (xs : List Sg) {k : Nat} (hk : k < xs.length) : sgnL xs (k + 1) = (sgnL xs k).take k ++ [sgn xs[k]] ++ (sgnL xs k).drop (k + 1) := by
  have e1 : (xs.take k).map sgn ++ List.replicate (xs.length - k) 0 = (xs.take k).map sgn ++ (0 :: List.replicate (xs.length - (k + 1)) 0) := by
    rw [show xs.length - k = (xs.length - (k + 1)) + 1 by omega, List.replicate_succ]
  have e2 : ((xs.take k).map sgn).length = k := by simp; omega
  unfold sgnL
  rw [e1, List.take_left' e2, take_map_succ hk]
  have e3 : ((xs.take k).map sgn ++ (0 :: List.replicate (xs.length - (k + 1)) 0)).drop (k + 1) = List.replicate (xs.length - (k + 1)) 0 := by
    rw [List.drop_append, e2, List.drop_of_length_le (by omega)]
    simp
  rw [e3]
theorem storeS (xs : List Sg) {k : Nat} (hk : k < xs.length) : (cells1 (sgnL xs (k + 1))).flatten = (cells1 (sgnL xs k)).flatten.take (k * 1) ++ [I (cmp3 (dif xs[k]) 0)] ++ (cells1 (sgnL xs k)).flatten.drop (k * 1 + 1) ∧
    k * 1 + 1 ≤ (cells1 (sgnL xs k)).flatten.length ∧ (cells1 (sgnL xs (k + 1))).length = (cells1 (sgnL xs k)).length ∧ ∀ x ∈ cells1 (sgnL xs (k + 1)), x.length = 1 := by
  have l1 := sgnL_len xs (k := k) (by omega)
  have l2 := sgnL_len xs (k := k + 1) (by omega)
  refine ⟨?_, ?_, ?_, ?_⟩
  · rw [flat1, flat1, sgnL_succ xs hk, Nat.mul_one]
    simp only [List.map_append, List.map_take, List.map_drop, List.map_cons, List.map_nil]
    rfl
  · rw [flat1, List.length_map, l1]; omega
  · simp only [cells1, List.length_map]; rw [l1, l2]
  · intro x hx
    simp only [cells1, List.mem_map] at hx
    obtain ⟨y, _, rfl⟩ := hx
    rfl
theorem loopA {m : Int} (xs : List Sg) (hl : xs.length ≤ 10) (hx : ∀ s ∈ xs, Ok s) : AWp (C m) Tryz.f13.ntmps (pieceAt [1,1,1,1,1,0] pTail) (fun e s' => match e with | .normal => SLe (C m) Tryz.f13.ntmps s' (stB xs) | _ => False) (stA xs) := by
  refine codeK_sound good (mu := []) ?_
  conv => whnf
  refine ⟨AWp.loop (ι := { k : Nat // k ≤ xs.length }) (fun k => ⟨[(274, .p (I k.1)), (273, .p (I xs.length)), (272, .p (.seq 6 (xs.map sc))), (29, .p (.seq 6 (xs.map sc))), (32, .own 0), (30, .p (seqP (crossL xs)))], [], [(0, (3, 1, cells1 (sgnL xs k.1)))], 1, [], [], []⟩) (fun k => xs.length - k.1) ⟨0, by simp⟩ ?_ ?_⟩
  · skip
    · refine SLe.of [] [(0, 0)] rfl rfl ?_
      conv => whnf
      repeat' (first
      | exact True.intro
      | (refine SAnd.mk (show _ = (_ : List (List PV)) from by simp [sgnL, cells1]) ?_; conv => whnf)
      | (refine SAnd.mk (PLe.of_eq (by simp only [wrapK]; rw [wrap_id (by first | omega | (simp only; done) | (simp only; omega) | simp) (by first | omega | (simp only; done) | (simp only; omega) | simp)]; simp)) ?_; conv => whnf)
      | (refine SAnd.mk (PLe.refl _) ?_; conv => whnf)
      | (refine SAnd.mk (PLeL.refl _) ?_; conv => whnf)
      | (refine SAnd.mk (PLe.of_eq (by simp)) ?_; conv => whnf)
      | (refine SAnd.mk rfl ?_; conv => whnf)
      | (refine SAnd.mk ⟨rfl, rfl⟩ ?_; conv => whnf)
      | (refine SAnd.mk ⟨rfl, rfl, rfl⟩ ?_; conv => whnf))
  · rintro ⟨k, hk⟩
    refine codeK_sound good (mu := []) ?_
    conv => whnf
    refine SBool.mk (fun hc => ?_) (fun hc => ?_)
    · conv => whnf
      have hkl : k < xs.length := by simpa using hc
      have hsome : 0 ≤ (k : Int) ∧ (xs.map sc)[((k : Int)).toNat]? = some (sc xs[k]) := ⟨by omega, by show (xs.map sc)[k]? = _; simp [hkl]⟩
      have hv := hx _ (List.getElem_mem hkl)
      have hdb := dif_bound hv.fit
      have cn := needle_ok (m := m) (checkE_zero.2 hv)
      have cc := compare_zero (m := m) (n := dif xs[k]) hv.sq_pos (by omega)
      have wk : wrapK IntKind.i64 ((k : Int) + 1) = k + 1 := w64 (by omega)
      have hin : 0 ≤ (k : Int) ∧ (k : Int) < (((3, 1, cells1 (sgnL xs k)) : Nat × Nat × List (List PV)).snd.snd.length : Int) := ⟨by omega, by
        show (k : Int) < (((cells1 (sgnL xs k)).length : Nat) : Int)
        rw [show (cells1 (sgnL xs k)).length = xs.length by simp only [cells1, List.length_map]; exact sgnL_len xs (by omega)]
        omega⟩
      conv => whnf
      repeat' (first
        | (refine codeK_sound good (mu := []) ?_; conv => whnf)
        | ((first | rw [wl0] | rw [wl1] | rw [wl2] | rw [wl3] | rw [wl4] | rw [wl5]); conv => whnf)
        | (rw [wk]; conv => whnf)
        | (refine SBool.mk (fun _ => ?_) (fun h => absurd (of_decide_eq_true rfl) h); conv => whnf)
        | (refine SBool.mk (fun h => absurd h (of_decide_eq_false rfl)) (fun _ => ?_); conv => whnf)
        | (refine SBool.mk (fun h => ?_) (fun h => ?_) <;> conv => whnf)
        | (refine SEx.mk _ (by first | exact hsome | exact cn | exact cc | exact ratio_pure _ _ | exact hin | exact storeS xs hkl) ?_; conv => whnf)
        | (refine SEx.mk _ (by first | exact rfl | exact ⟨of_decide_eq_true rfl, rfl⟩) ?_; conv => whnf)
        | (refine SAll.mk (fun _ => ?_); conv => whnf)
        | (refine SAnd.mk (by first | exact hsome | exact hin) ?_; conv => whnf)
        | (refine SAnd.mk ⟨by intro c hc; simp at hc; first | (subst hc; rfl) | ((repeat' (rcases hc with rfl | hc)) <;> first | rfl | (subst hc; rfl)), by (simp; first | done | omega), by (simp; first | done | omega)⟩ ?_; conv => whnf)
        | (refine SAnd.mk (by first | exact rfl | kernel_rfl | omega | decide | exact hsome | exact cn | exact cc | exact ratio_pure _ _ | exact hin | exact storeS xs hkl) ?_; conv => whnf)
        | fail)
      refine ⟨⟨k + 1, by omega⟩, by simp only; omega, ?_⟩
      skip
      · refine SLe.of [] [(0, 0)] rfl rfl ?_
        conv => whnf
        repeat' (first
        | exact True.intro
        | (refine SAnd.mk (PLe.of_eq (by simp only [wrapK]; rw [wrap_id (by first | omega | (simp only; done) | (simp only; omega) | simp) (by first | omega | (simp only; done) | (simp only; omega) | simp)]; simp)) ?_; conv => whnf)
        | (refine SAnd.mk (PLe.refl _) ?_; conv => whnf)
        | (refine SAnd.mk (PLeL.refl _) ?_; conv => whnf)
        | (refine SAnd.mk (PLe.of_eq (by simp)) ?_; conv => whnf)
        | (refine SAnd.mk rfl ?_; conv => whnf)
        | (refine SAnd.mk ⟨rfl, rfl⟩ ?_; conv => whnf)
        | (refine SAnd.mk ⟨rfl, rfl, rfl⟩ ?_; conv => whnf))
    · conv => whnf
      have : k = xs.length := by simp at hc; omega
      subst this
      skip
      · refine SLe.of [] [(0, 0)] rfl rfl ?_
        conv => whnf
        repeat' (first
        | exact True.intro
        | (refine SAnd.mk (show _ = (_ : List (List PV)) from by simp [sgnL, cells1]) ?_; conv => whnf)
        | (refine SAnd.mk (PLe.of_eq (by simp only [wrapK]; rw [wrap_id (by first | omega | (simp only; done) | (simp only; omega) | simp) (by first | omega | (simp only; done) | (simp only; omega) | simp)]; simp)) ?_; conv => whnf)
        | (refine SAnd.mk (PLe.refl _) ?_; conv => whnf)
        | (refine SAnd.mk (PLeL.refl _) ?_; conv => whnf)
        | (refine SAnd.mk (PLe.of_eq (by simp)) ?_; conv => whnf)
        | (refine SAnd.mk rfl ?_; conv => whnf)
        | (refine SAnd.mk ⟨rfl, rfl⟩ ?_; conv => whnf)
        | (refine SAnd.mk ⟨rfl, rfl, rfl⟩ ?_; conv => whnf))
end Go.Proofs.Ab.Tone2
end
section
/- The law of what agrees: joined. -/
set_option maxRecDepth 100000
set_option linter.unusedVariables false
set_option linter.unusedSimpArgs false
namespace Go.Proofs.Ab.Tone2
open Go Go.RowKit Go.Proofs.Ab Go.Proofs.Ab.Tone
abbrev stS (xs : List Sg) : AS := ⟨[(29, .p (.seq 6 (xs.map sc))), (32, .p (sgnP xs)), (30, .p (seqP (crossL xs)))], [], [], 0, [], [], []⟩
theorem shutN {C : Cx} {nt : Nat} {s u : AS} (n : Nat) (h : sealK s n fun s' => SLe C nt s' u) : SLe C nt s u := by
  obtain ⟨s', h, hs⟩ := sealK_sound (C := C) (nt := nt) h
  exact ⟨fun hS => let ⟨_, h1⟩ := hs hS; h.le h1⟩
theorem sc_one (l : List Sg) : ∀ c ∈ (l.map sc).flatten, c.one = true := by
  intro c hc
  simp only [List.mem_flatten, List.mem_map] at hc
  obtain ⟨x, ⟨s, _, rfl⟩, h⟩ := hc
  simp only [List.mem_cons, List.not_mem_nil, or_false] at h
  rcases h with rfl | rfl | rfl | rfl | rfl | rfl <;> rfl
/-- From the loop over the spans on. -/
theorem tail3 {m : Int} (xs : List Sg) (hl : xs.length ≤ 10) : AWp (C m) Tryz.f13.ntmps (pieceAt [1,1,1,1,1,1,1] pTail) (endTrue m [ResultVar.tmp 6]) (stC xs (crossL xs) 0) := by
  refine AWp.seq ((loopB xs hl _ (cov_all xs)).mono fun e s' h => ?_)
  cases e with
  | normal =>
    obtain ⟨i, hi, hc, h⟩ := h
    exact .le h (loopC xs hl i hi hc)
  | ret => exact h.elim
  | exit k => exact h.elim
/-- From the loop over the signs on. -/
theorem tail2 {m : Int} (xs : List Sg) (hl : xs.length ≤ 10) (hx : ∀ s ∈ xs, Ok s) : AWp (C m) Tryz.f13.ntmps (pieceAt [1,1,1,1,1] pTail) (endTrue m [ResultVar.tmp 6]) (stA xs) := by
  refine AWp.seq ((loopA xs hl hx).mono fun e s' h => ?_)
  cases e with
  | normal =>
    refine .le h (.le (t := stS xs) ?_ ?_)
    · refine shutN 0 ?_
      conv => whnf
      skip
      · refine SLe.of [] [] rfl rfl ?_
        conv => whnf
        repeat' (first
        | exact True.intro
        | (refine SAnd.mk (PLe.of_eq (by simp only [wrapK]; rw [wrap_id (by first | omega | (simp only; done) | (simp only; omega) | simp) (by first | omega | (simp only; done) | (simp only; omega) | simp)]; simp)) ?_; conv => whnf)
        | (refine SAnd.mk (PLe.refl _) ?_; conv => whnf)
        | (refine SAnd.mk (PLeL.refl _) ?_; conv => whnf)
        | (refine SAnd.mk (PLe.of_eq (by simp)) ?_; conv => whnf)
        | (refine SAnd.mk rfl ?_; conv => whnf)
        | (refine SAnd.mk ⟨rfl, rfl⟩ ?_; conv => whnf)
        | (refine SAnd.mk ⟨rfl, rfl, rfl⟩ ?_; conv => whnf))
    · have last := tail3 (m := m) xs hl
      refine codeN_sound good (mu := []) (n := 1) ?_
      conv => whnf
      refine ⟨AWp.le ?_ last⟩
      skip
      · refine SLe.of [] [] rfl rfl ?_
        conv => whnf
        repeat' (first
        | exact True.intro
        | (refine SAnd.mk (PLe.of_eq (by simp only [wrapK]; rw [wrap_id (by first | omega | (simp only; done) | (simp only; omega) | simp) (by first | omega | (simp only; done) | (simp only; omega) | simp)]; simp)) ?_; conv => whnf)
        | (refine SAnd.mk (PLe.refl _) ?_; conv => whnf)
        | (refine SAnd.mk (PLeL.refl _) ?_; conv => whnf)
        | (refine SAnd.mk (PLe.of_eq (by simp)) ?_; conv => whnf)
        | (refine SAnd.mk rfl ?_; conv => whnf)
        | (refine SAnd.mk ⟨rfl, rfl⟩ ?_; conv => whnf)
        | (refine SAnd.mk ⟨rfl, rfl, rfl⟩ ?_; conv => whnf))
  | ret => exact h.elim
  | exit k => exact h.elim
set_option maxHeartbeats 8000000 in
theorem tail1 {m : Int} (a b : Sg) (bandN : Int) (l : List Sg) (hl : l.length ≤ 8) : AWp (C m) Tryz.f13.ntmps pTail (endTrue m [ResultVar.tmp 6]) (stMore a b bandN l) := by
  have hxl : (a :: b :: l).length ≤ 10 := by simp; omega
  have c44 := refSignals_pure (m := m) (a :: b :: l) (by omega)
  have c42 := signals_pure (m := m) (a :: b :: l) (by omega)
  have c58 := Crossings_pure (m := m) (a :: b :: l) (by omega)
  have hcl := (cov_all (a :: b :: l)).len (Nat.zero_le _)
  have hap : (∀ c ∈ (l.map sc).flatten, c.one = true) ∧ (2 + (l.map sc).length) * 48 ≤ 140737488355328 ∧ 2 + (l.map sc).length ≤ 9223372036854775807 := ⟨sc_one l, by simp only [List.length_map]; omega, by simp only [List.length_map]; omega⟩
  by_cases hck : checkL (a :: b :: l) = 0
  · rw [if_pos hck] at c58
    rw [hck] at c58 c44
    have t2 := tail2 (m := m) (a :: b :: l) hxl (checkL_zero.1 hck).2
    have hle : ¬ (((a :: b :: l).map sc).length : Int) < ((crossL (a :: b :: l)).length : Int) := by simp only [List.length_map]; omega
    have hmk : ((((a :: b :: l).map sc).length : Nat) : Int) = (((a :: b :: l).map sc).length : Nat) ∧ 0 ≤ ((((a :: b :: l).map sc).length : Nat) : Int) ∧ 8 * ((((a :: b :: l).map sc).length : Nat) : Int) ≤ 281474976710656 ∧ ((((a :: b :: l).map sc).length : Nat) : Int) ≤ 9223372036854775807 := by
      rw [List.length_map]
      exact ⟨rfl, by omega, by omega, by omega⟩
    have hcp : (cellsP (crossL (a :: b :: l))).length = (crossL (a :: b :: l)).length := by simp
    rw [← hcp] at hle
    have hrep : List.replicate ((((a :: b :: l).map sc).length : Nat) : Int).toNat [I 0] = List.replicate (a :: b :: l).length [I 0] := by rw [Int.toNat_natCast, List.length_map]
    clear hcl hl hxl
    refine codeN_sound good (mu := [1247]) (n := 5) ?_
    conv => whnf
    repeat' (first
      | (refine codeK_sound good (mu := [1247]) ?_; conv => whnf)
      | ((first | rw [wl0] | rw [wl1] | rw [wl2] | rw [wl3] | rw [wl4] | rw [wl5]); conv => whnf)
      | (refine SBool.mk (fun _ => ?_) (fun h => absurd (of_decide_eq_true rfl) h); conv => whnf)
      | (refine SBool.mk (fun h => absurd h (of_decide_eq_false rfl)) (fun _ => ?_); conv => whnf)
      | (refine SBool.mk (fun h => ?_) (fun h => ?_) <;> conv => whnf)
      | (refine SEx.mk _ (by first | exact c44 | exact c42 | exact c58 | exact hap | exact hmk) ?_; conv => whnf)
      | (refine SEx.mk _ (by first | exact rfl | exact ⟨of_decide_eq_true rfl, rfl⟩) ?_; conv => whnf)
      | (refine SAll.mk (fun _ => ?_); conv => whnf)
      | (refine SAnd.mk (by first | exact hap | exact hmk) ?_; conv => whnf)
      | (refine SAnd.mk ⟨by intro c hc; simp at hc; first | (subst hc; rfl) | ((repeat' (rcases hc with rfl | hc)) <;> first | rfl | (subst hc; rfl)), by (simp; first | done | omega), by (simp; first | done | omega)⟩ ?_; conv => whnf)
      | (refine SAnd.mk (by first | exact rfl | kernel_rfl | omega | decide | exact c44 | exact c42 | exact c58 | exact hap | exact hmk) ?_; conv => whnf)
      | fail)
    · exact absurd (by assumption) hle
    · refine ⟨AWp.le ?_ t2⟩
      skip
      · refine SLe.of [] [(0, 2)] rfl rfl ?_
        conv => whnf
        repeat' (first
        | exact True.intro
        | (refine SAnd.mk (show _ = (_ : List (List PV)) from hrep) ?_; conv => whnf)
        | (refine SAnd.mk (PLe.of_eq (by simp only [wrapK]; rw [wrap_id (by first | omega | (simp only; done) | (simp only; omega) | simp) (by first | omega | (simp only; done) | (simp only; omega) | simp)]; simp)) ?_; conv => whnf)
        | (refine SAnd.mk (PLe.refl _) ?_; conv => whnf)
        | (refine SAnd.mk (PLeL.refl _) ?_; conv => whnf)
        | (refine SAnd.mk (PLe.of_eq (by simp)) ?_; conv => whnf)
        | (refine SAnd.mk rfl ?_; conv => whnf)
        | (refine SAnd.mk ⟨rfl, rfl⟩ ?_; conv => whnf)
        | (refine SAnd.mk ⟨rfl, rfl, rfl⟩ ?_; conv => whnf))
  · refine codeK_sound good (mu := [1247]) ?_
    conv => whnf
    repeat' (first
      | (refine codeK_sound good (mu := [1247]) ?_; conv => whnf)
      | ((first | rw [wl0] | rw [wl1] | rw [wl2] | rw [wl3] | rw [wl4] | rw [wl5]); conv => whnf)
      | (refine SBool.mk (fun _ => ?_) (fun h => absurd (of_decide_eq_true rfl) h); conv => whnf)
      | (refine SBool.mk (fun h => absurd h (of_decide_eq_false rfl)) (fun _ => ?_); conv => whnf)
      | (refine SBool.mk (fun h => ?_) (fun h => ?_) <;> conv => whnf)
      | (refine SEx.mk _ (by first | exact c44 | exact hap) ?_; conv => whnf)
      | (refine SEx.mk _ (by first | exact rfl | exact ⟨of_decide_eq_true rfl, rfl⟩) ?_; conv => whnf)
      | (refine SAll.mk (fun _ => ?_); conv => whnf)
      | (refine SAnd.mk (by first | exact hap) ?_; conv => whnf)
      | (refine SAnd.mk ⟨by intro c hc; simp at hc; first | (subst hc; rfl) | ((repeat' (rcases hc with rfl | hc)) <;> first | rfl | (subst hc; rfl)), by (simp; first | done | omega), by (simp; first | done | omega)⟩ ?_; conv => whnf)
      | (refine SAnd.mk (by first | exact rfl | kernel_rfl | omega | decide | exact c44 | exact hap) ?_; conv => whnf)
      | fail)
    all_goals first
      | exact ⟨PLe.refl _⟩
      | exact absurd (by assumption) hck
theorem ToneAgrees_pure {m : Int} (a b : Sg) (bandN : Int) (l : List Sg) (hbd : 0 ≤ bandN ∧ bandN ≤ 65535) : APure (C m) 13 [.agg (sc a), .agg (sc b), .agg (moreC bandN l)] (Bo true) := by
  have n1 := near_pure (m := m) a 1000 (by decide) (by decide)
  have n2 := near_pure (m := m) b 1000 (by decide) (by decide)
  by_cases ha : nearP a 1000
  · by_cases hb : nearP b 1000
    · by_cases hl : l.length ≤ 8
      · exact ToneAgrees_near a b bandN l hbd ha hb hl (tail1 a b bandN l hl)
      · rw [decide_eq_true ha] at n1
        rw [decide_eq_true hb] at n2
        have hl' : 8 < ((l.map sc).length : Int) := by rw [List.length_map]; omega
        refine APure.of_body good [] (fn := Tryz.f13) (by kernel_rfl) (by kernel_rfl) rfl rfl (by kernel_rfl) rfl (by kernel_rfl) ?_
        conv => whnf
        repeat' (first
          | (refine codeK_sound good (mu := []) ?_; conv => whnf)
          | ((first | rw [wl0] | rw [wl1] | rw [wl2] | rw [wl3] | rw [wl4] | rw [wl5]); conv => whnf)
          | (refine SBool.mk (fun _ => ?_) (fun h => absurd (of_decide_eq_true rfl) h); conv => whnf)
          | (refine SBool.mk (fun h => absurd h (of_decide_eq_false rfl)) (fun _ => ?_); conv => whnf)
          | (refine SBool.mk (fun h => ?_) (fun h => ?_) <;> conv => whnf)
          | (refine SEx.mk _ (by first | exact awake_pure | exact n1 | exact n2) ?_; conv => whnf)
          | (refine SEx.mk _ (by first | exact rfl | exact ⟨of_decide_eq_true rfl, rfl⟩) ?_; conv => whnf)
          | (refine SAll.mk (fun _ => ?_); conv => whnf)
          | (refine SAnd.mk ⟨by intro c hc; simp at hc; first | (subst hc; rfl) | ((repeat' (rcases hc with rfl | hc)) <;> first | rfl | (subst hc; rfl)), by (simp; first | done | omega), by (simp; first | done | omega)⟩ ?_; conv => whnf)
          | (refine SAnd.mk (by first | exact rfl | kernel_rfl | omega | decide | exact awake_pure | exact n1 | exact n2) ?_; conv => whnf)
          | fail)
        all_goals first
          | exact ⟨PLe.refl _⟩
          | exact absurd hl' (by assumption)
    · rw [decide_eq_true ha] at n1
      rw [decide_eq_false hb] at n2
      refine APure.of_body good [] (fn := Tryz.f13) (by kernel_rfl) (by kernel_rfl) rfl rfl (by kernel_rfl) rfl (by kernel_rfl) ?_
      conv => whnf
      repeat' (first
        | (refine codeK_sound good (mu := []) ?_; conv => whnf)
        | ((first | rw [wl0] | rw [wl1] | rw [wl2] | rw [wl3] | rw [wl4] | rw [wl5]); conv => whnf)
        | (refine SBool.mk (fun _ => ?_) (fun h => absurd (of_decide_eq_true rfl) h); conv => whnf)
        | (refine SBool.mk (fun h => absurd h (of_decide_eq_false rfl)) (fun _ => ?_); conv => whnf)
        | (refine SBool.mk (fun h => ?_) (fun h => ?_) <;> conv => whnf)
        | (refine SEx.mk _ (by first | exact awake_pure | exact n1 | exact n2) ?_; conv => whnf)
        | (refine SEx.mk _ (by first | exact rfl | exact ⟨of_decide_eq_true rfl, rfl⟩) ?_; conv => whnf)
        | (refine SAll.mk (fun _ => ?_); conv => whnf)
        | (refine SAnd.mk ⟨by intro c hc; simp at hc; first | (subst hc; rfl) | ((repeat' (rcases hc with rfl | hc)) <;> first | rfl | (subst hc; rfl)), by (simp; first | done | omega), by (simp; first | done | omega)⟩ ?_; conv => whnf)
        | (refine SAnd.mk (by first | exact rfl | kernel_rfl | omega | decide | exact awake_pure | exact n1 | exact n2) ?_; conv => whnf)
        | fail)
      all_goals exact ⟨PLe.refl _⟩
  · rw [decide_eq_false ha] at n1
    refine APure.of_body good [] (fn := Tryz.f13) (by kernel_rfl) (by kernel_rfl) rfl rfl (by kernel_rfl) rfl (by kernel_rfl) ?_
    conv => whnf
    repeat' (first
      | (refine codeK_sound good (mu := []) ?_; conv => whnf)
      | ((first | rw [wl0] | rw [wl1] | rw [wl2] | rw [wl3] | rw [wl4] | rw [wl5]); conv => whnf)
      | (refine SBool.mk (fun _ => ?_) (fun h => absurd (of_decide_eq_true rfl) h); conv => whnf)
      | (refine SBool.mk (fun h => absurd h (of_decide_eq_false rfl)) (fun _ => ?_); conv => whnf)
      | (refine SBool.mk (fun h => ?_) (fun h => ?_) <;> conv => whnf)
      | (refine SEx.mk _ (by first | exact awake_pure | exact n1 | exact n2) ?_; conv => whnf)
      | (refine SEx.mk _ (by first | exact rfl | exact ⟨of_decide_eq_true rfl, rfl⟩) ?_; conv => whnf)
      | (refine SAll.mk (fun _ => ?_); conv => whnf)
      | (refine SAnd.mk ⟨by intro c hc; simp at hc; first | (subst hc; rfl) | ((repeat' (rcases hc with rfl | hc)) <;> first | rfl | (subst hc; rfl)), by (simp; first | done | omega), by (simp; first | done | omega)⟩ ?_; conv => whnf)
      | (refine SAnd.mk (by first | exact rfl | kernel_rfl | omega | decide | exact awake_pure | exact n1 | exact n2) ?_; conv => whnf)
      | fail)
    all_goals exact ⟨PLe.refl _⟩
end Go.Proofs.Ab.Tone2
end
section
/- One more parameter's shape: a band and a list of signals. -/
set_option maxRecDepth 100000
set_option linter.unusedVariables false
set_option linter.unusedSimpArgs false
namespace Go.Proofs.Ab.Tone2
open Go Go.RowKit Go.Proofs.Ab Go.Proofs.Ab.Tone
theorem fit_bands {x : PV} (h : FitP (true, [.int .u16, .sl sigSh]) x) : ∃ (n : Int) (l : List Sg), x = .agg (moreC n l) ∧ 0 ≤ n ∧ n ≤ 65535 := by
  obtain ⟨xs, rfl, h⟩ := h
  obtain ⟨c1, xs, rfl, h1, h⟩ := h.uncons
  obtain ⟨c2, xs, rfl, h2, h⟩ := h.uncons
  obtain rfl := h.unnil
  obtain ⟨n, rfl, w⟩ := h1.int_inv
  obtain ⟨xs, rfl, _, hx⟩ := h2.sl_inv
  obtain ⟨l, rfl⟩ := rows_of (fun _ => fitL_sig) hx
  exact ⟨n, l, rfl, inU16 w⟩
end Go.Proofs.Ab.Tone2
end
