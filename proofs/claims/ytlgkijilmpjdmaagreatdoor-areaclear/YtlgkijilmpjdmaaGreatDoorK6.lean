/- The machine, the contracts and the walks on which every Area law rests: a part of the proof. -/
import Derived.Test.YtlgkijilmpjdmaaGreatDoorK5
import Derived.Test.YtlgkijilmpjdmaaGreatDoorTie
import Derived.Test.YtlgkijilmpjdmaaGreatDoorCards
import Derived.ProofKit
import Derived.Lay
import Derived.LaidMore
import Derived.SevenTiedAt
import Derived.Stop.Joined
section
/- Bound. -/
set_option maxRecDepth 100000
set_option linter.unusedVariables false
set_option linter.unusedSimpArgs false
namespace Go.Proofs.Ab.Area
open Go Go.RowKit Go.Proofs.Ab
def min3 (a b c : Int) : Int := min (min a b) c
def minT (t : Tb) : Int := min (min (min (t 0 0) (min3 (t 0 0) (t 0 1) (t 0 2))) (min3 (t 1 0) (t 1 1) (t 1 2))) (min3 (t 2 0) (t 2 1) (t 2 2))
theorem min_pure {m : Int} (a b c : Int) : APure (C m) 157 [.seq 1 [[I a], [I b], [I c]]] (I (min3 a b c)) := by
  refine APure.of_body good [] (fn := Tryz.f157) (by kernel_rfl) (by kernel_rfl) rfl rfl (by kernel_rfl) rfl (by kernel_rfl) ?_
  conv => whnf
  repeat' (first
    | (refine codeK_sound good (mu := []) ?_; conv => whnf)
    | ((first | rw [wl0] | rw [wl1] | rw [wl2] | rw [wl3] | rw [wl4] | rw [wl5]); conv => whnf)
    | (refine SBool.mk (fun _ => ?_) (fun h => absurd (of_decide_eq_true rfl) h); conv => whnf)
    | (refine SBool.mk (fun h => absurd h (of_decide_eq_false rfl)) (fun _ => ?_); conv => whnf)
    | refine SCode.mk (AWp.rounds 3 ?_)
    | (refine SEx.mk _ (by first | exact rfl | exact ⟨of_decide_eq_true rfl, rfl⟩) ?_; conv => whnf)
    | fail)
  all_goals exact ⟨PLe.refl _⟩
def bndStep (s : Int) (k : Nat) (st : Int × Int) (r : Int) : Int × Int := (st.1 + (max (if 0 < k then st.2 + s else st.2) r - r), max (if 0 < k then st.2 + s else st.2) r)
def bndK (s : Int) (rs : List Int) : Nat → Int × Int
  | 0 => (0, 0)
  | k + 1 => bndStep s k (bndK s rs k) (rs.getD k 0)
def boundI (l : List Fg) (t : Tb) : Int := (bndK (minT t) (isort (l.map (·.ready))) l.length).1
theorem minT_ok {t : Tb} (ht : TbOk t) : 0 ≤ minT t ∧ minT t ≤ 10000 := by
  have h00 := ht 0 0 (by simp) (by simp)
  have h01 := ht 0 1 (by simp) (by simp)
  have h02 := ht 0 2 (by simp) (by simp)
  have h10 := ht 1 0 (by simp) (by simp)
  have h11 := ht 1 1 (by simp) (by simp)
  have h12 := ht 1 2 (by simp) (by simp)
  have h20 := ht 2 0 (by simp) (by simp)
  have h21 := ht 2 1 (by simp) (by simp)
  have h22 := ht 2 2 (by simp) (by simp)
  unfold minT min3
  omega
theorem bnd_fit {s : Int} (hs : 0 ≤ s ∧ s ≤ 10000) {rs : List Int} (hr : ∀ r ∈ rs, 0 ≤ r ∧ r ≤ 100000000) : ∀ k, (0 ≤ (bndK s rs k).2 ∧ (bndK s rs k).2 ≤ 100000000 + 10000 * k) ∧ 0 ≤ (bndK s rs k).1 ∧ (bndK s rs k).1 ≤ k * (100000000 + 10000 * k)
  | 0 => ⟨⟨by simp [bndK], by simp [bndK]⟩, by simp [bndK], by simp [bndK]⟩
  | k + 1 => by
    obtain ⟨⟨h1, h2⟩, h3, h4⟩ := bnd_fit hs hr k
    have hg : 0 ≤ rs.getD k 0 ∧ rs.getD k 0 ≤ 100000000 := by
      rw [List.getD_eq_getElem?_getD]
      cases h : rs[k]? with
      | none => simp
      | some r => exact hr r (List.mem_of_getElem? h)
    have hn : (((k + 1 : Nat) : Int)) * (100000000 + 10000 * ((k + 1 : Nat) : Int)) = (k : Int) * (100000000 + 10000 * k) + 10000 * k + (100000000 + 10000 * (k + 1)) := by
      rw [Int.natCast_add]
      grind
    unfold bndK bndStep
    generalize rs.getD k 0 = r at hg
    generalize (bndK s rs k).1 = N at *
    generalize (bndK s rs k).2 = T at *
    simp only
    rw [hn]
    generalize (k : Int) * (100000000 + 10000 * k) = M at *
    split <;> omega
theorem sorted_ready {l zs : List Fg} (hp : zs.Perm l) (hs : zs.Pairwise fun x y => x.ready ≤ y.ready) : zs.map (·.ready) = isort (l.map (·.ready)) := by
  have h1 : (zs.map (·.ready)).Pairwise (· ≤ ·) := by rw [List.pairwise_map]; exact hs
  rw [← isort_sorted h1]
  exact isort_perm (hp.map _)
theorem isort_len (l : List Int) : (isort l).length = l.length := (isort_is_perm l).length_eq
abbrev boundV (l : List Fg) (t : Tb) : PV := .tup [I (if seqE l t = 0 then boundI l t else 0), I (seqE l t)]
set_option maxHeartbeats 8000000 in
theorem Bound_pure {m : Int} (l : List Fg) (t : Tb) (hl : l.length ≤ 1000000) : APure (C m) 74 [.seq 3 (l.map fc), .agg (tbc t)] (boundV l t) := by
  have hcf := CheckFlights_pure (m := m) l hl
  have hcs := CheckSpacing_pure (m := m) t
  have hf2 : APure (C m) 93 [.seq 1 [[I (flightsE l)], [I (spaceE t)]]] (I (seqE l t)) := first2_pure _ _
  unfold boundV
  by_cases hE : seqE l t = 0
  · have hq := seqE_ok hE
    rw [if_pos hE, hE]
    rw [hE] at hf2
    have n8 := hq.i.n8
    have hmn := minT_ok hq.i.t
    have hso := sorted_own (m := m) l (Nat.le_trans n8 (by decide))
    have hff := hq.i.f
    clear hE hq
    refine APure.of_body good [38] (fn := Tryz.f74) (by kernel_rfl) (by kernel_rfl) rfl rfl (by kernel_rfl) rfl (by kernel_rfl) ?_
    conv => whnf
    repeat' (first
      | (refine SBool.mk (fun _ => ?_) (fun h => absurd (of_decide_eq_true rfl) h); conv => whnf)
      | (refine SEx.mk _ (by first | exact hcf | exact hcs | exact hf2) ?_; conv => whnf)
      | (refine SAnd.mk (by first | exact rfl | kernel_rfl | omega | decide | exact hcf | exact hcs | exact hf2) ?_; conv => whnf)
      | fail)
    refine ⟨AWp.rounds 4 ?_⟩
    conv => whnf
    skip
    conv => whnf
    repeat' (first
      | (refine codeK_sound good (mu := [38]) ?_; conv => whnf)
      | ((first | rw [wl0] | rw [wl1] | rw [wl2] | rw [wl3] | rw [wl4] | rw [wl5]); conv => whnf)
      | (refine SBool.mk (fun _ => ?_) (fun h => absurd (of_decide_eq_true rfl) h); conv => whnf)
      | (refine SBool.mk (fun h => absurd h (of_decide_eq_false rfl)) (fun _ => ?_); conv => whnf)
      | (refine SEx.mk _ (by first | exact min_pure _ _ _ | exact values_pure _) ?_; conv => whnf)
      | (refine SAnd.mk (by first | exact rfl | kernel_rfl | omega | decide | exact min_pure _ _ _ | exact values_pure _) ?_; conv => whnf)
      | fail)
    refine AOwn.call (xs := [valF l, .fn 160 []]) hso (fun ys hy => ?_)
    obtain ⟨zs, rfl, hp, hs⟩ := hy
    have hrd := sorted_ready hp hs
    have hzl : zs.length = l.length := hp.length_eq
    have hzf : ∀ f ∈ zs, FgOk f := fun f hf => hff f (hp.mem_iff.1 hf)
    have hzn : (((zs.map fc).length : Nat) : Int) = l.length := by rw [List.length_map, hzl]
    have hbi : boundI l t = (bndK (minT t) (zs.map (·.ready)) l.length).1 := by unfold boundI; rw [hrd]
    rw [hbi]
    clear hbi hrd hp hs hff hso hcf hcs hf2
    conv => whnf
    skip
    conv => whnf
    repeat' (first
      | (rw [hzn]; conv => whnf)
      | fail)
    refine ⟨AWp.loop (ι := { k : Nat // k ≤ l.length }) (fun k => ⟨[(41, .p (I k.1)), (40, .p (I l.length)), (39, .p (.seq 3 (zs.map fc))), (12, .p (I (bndK (minT t) (zs.map (·.ready)) k.1).2)), (11, .p (I (bndK (minT t) (zs.map (·.ready)) k.1).1)), (7, .p (I (minT t)))], [], [], 0, [], [], []⟩) (fun k => l.length - k.1) ⟨0, by simp⟩ ?_ ?_⟩
    · refine SLe.shutB 6 ?_
      conv => whnf
      skip
      · refine SLe.of [] [] rfl rfl ?_
        conv => whnf
        repeat' (first
        | exact True.intro
        | (refine SAnd.mk (PLe.refl _) ?_; conv => whnf))
    · rintro ⟨k, hk⟩
      refine codeK_sound good (mu := []) ?_
      conv => whnf
      refine SBool.mk (fun hc => ?_) (fun hc => ?_)
      · have hkl : k < l.length := by simpa using hc
        have hkz : k < zs.length := by omega
        have hs := some_at hkz fc
        have mk := sub_lt hkl
        have hfo := (hzf _ (List.getElem_mem hkz)).r
        have hfit := bnd_fit hmn (rs := zs.map (·.ready)) (fun r hr => by
          obtain ⟨f, hf, rfl⟩ := List.mem_map.1 hr
          exact (hzf f hf).r) k
        have hgd : (zs.map (·.ready)).getD k 0 = zs[k].ready := by simp [List.getD, hkz]
        have hst : bndK (minT t) (zs.map (·.ready)) (k + 1) = bndStep (minT t) k (bndK (minT t) (zs.map (·.ready)) k) zs[k].ready := by
          rw [← hgd]
          rfl
        have hM : (k : Int) * (100000000 + 10000 * k) ≤ 1000000000000 := Int.le_trans (Int.mul_le_mul (show (k : Int) ≤ 10 by omega) (show (100000000 + 10000 * (k : Int)) ≤ 100000000000 by omega) (by omega) (by omega)) (by decide)
        have hZ : (bndK (minT t) (zs.map (·.ready)) (k + 1)).1 = (bndK (minT t) (zs.map (·.ready)) k).1 + (max (if 0 < k then (bndK (minT t) (zs.map (·.ready)) k).2 + minT t else (bndK (minT t) (zs.map (·.ready)) k).2) zs[k].ready - zs[k].ready) ∧ (bndK (minT t) (zs.map (·.ready)) (k + 1)).2 = max (if 0 < k then (bndK (minT t) (zs.map (·.ready)) k).2 + minT t else (bndK (minT t) (zs.map (·.ready)) k).2) zs[k].ready := by
          rw [hst]
          exact ⟨rfl, rfl⟩
        clear hst hgd
        generalize hNK : (bndK (minT t) (zs.map (·.ready)) (k + 1)).1 = N at hZ
        generalize hTK : (bndK (minT t) (zs.map (·.ready)) (k + 1)).2 = T at hZ
        generalize (bndK (minT t) (zs.map (·.ready)) k).1 = N0 at *
        generalize (bndK (minT t) (zs.map (·.ready)) k).2 = T0 at *
        generalize (k : Int) * (100000000 + 10000 * k) = M at *
        generalize zs[k] = f at *
        cases k with
        | zero =>
          rw [if_neg (Nat.lt_irrefl 0)] at hZ
          have h1 : (max T0 f.ready - f.ready).natAbs ≤ 4000000000000000000 := by omega
          have h2 : (N0 + (max T0 f.ready - f.ready)).natAbs ≤ 4000000000000000000 := by omega
          have wk := wsucc (k := 0) (by omega)
          have w1 := w64 h1
          have w2 := w64 h2
          clear hc hfit hM hmn h1 h2
          conv => whnf
          skip
          conv => whnf
          repeat' (first
            | (rw [wk]; conv => whnf)
            | (rw [w2]; conv => whnf)
            | (rw [w1]; conv => whnf)
            | (refine SBool.mk (fun h => absurd h (of_decide_eq_false rfl)) (fun _ => ?_); conv => whnf)
            | (refine SEx.mk _ (by first | exact hs) ?_; conv => whnf)
            | fail)
          refine ⟨⟨0 + 1, hkl⟩, mk, ?_⟩
          rw [hNK, hTK]
          skip
          · refine SLe.of [] [] rfl rfl ?_
            conv => whnf
            repeat' (first
            | exact True.intro
            | (refine SAnd.mk (PLe.of_eq (congrArg I hZ.1.symm)) ?_; conv => whnf)
            | (refine SAnd.mk (PLe.of_eq (congrArg I hZ.2.symm)) ?_; conv => whnf)
            | (refine SAnd.mk (PLe.refl _) ?_; conv => whnf))
        | succ j =>
          rw [if_pos (Nat.succ_pos j)] at hZ
          have hj0 : (0 : Int) < ((j + 1 : Nat) : Int) := by omega
          have h0 : (T0 + minT t).natAbs ≤ 4000000000000000000 := by omega
          have h1 : (max (T0 + minT t) f.ready - f.ready).natAbs ≤ 4000000000000000000 := by omega
          have h2 : (N0 + (max (T0 + minT t) f.ready - f.ready)).natAbs ≤ 4000000000000000000 := by omega
          have wk := wsucc (k := j + 1) (by omega)
          have w0 := w64 h0
          have w1 := w64 h1
          have w2 := w64 h2
          clear hc hfit hM hmn h0 h1 h2
          conv => whnf
          skip
          conv => whnf
          repeat' (first
            | (rw [wk]; conv => whnf)
            | (rw [w2]; conv => whnf)
            | (rw [w1]; conv => whnf)
            | (rw [w0]; conv => whnf)
            | (refine SBool.mk (fun h => ?_) (fun h => ?_) <;> conv => whnf)
            | (refine SEx.mk _ (by first | exact hs) ?_; conv => whnf)
            | fail)
          · refine ⟨⟨j + 1 + 1, hkl⟩, mk, ?_⟩
            rw [hNK, hTK]
            skip
            · refine SLe.of [] [] rfl rfl ?_
              conv => whnf
              repeat' (first
              | exact True.intro
              | (refine SAnd.mk (PLe.of_eq (congrArg I hZ.1.symm)) ?_; conv => whnf)
              | (refine SAnd.mk (PLe.of_eq (congrArg I hZ.2.symm)) ?_; conv => whnf)
              | (refine SAnd.mk (PLe.refl _) ?_; conv => whnf))
          · exact absurd hj0 (by assumption)
      · have hkr : k = l.length := by simp at hc; omega
        subst hkr
        skip
        conv => whnf
        repeat' (first
          | fail)
        exact ⟨PLe.refl _⟩
  · rw [if_neg hE]
    refine APure.of_body good [] (fn := Tryz.f74) (by kernel_rfl) (by kernel_rfl) rfl rfl (by kernel_rfl) rfl (by kernel_rfl) ?_
    conv => whnf
    repeat' (first
      | (refine SBool.mk (fun h => ?_) (fun h => ?_) <;> conv => whnf)
      | (refine SEx.mk _ (by first | exact hcf | exact hcs | exact hf2) ?_; conv => whnf)
      | (refine SAnd.mk (by first | exact rfl | kernel_rfl | omega | decide | exact hcf | exact hcs | exact hf2) ?_; conv => whnf)
      | fail)
    all_goals first
      | exact ⟨PLe.refl _⟩
      | exact absurd (by assumption) hE
end Go.Proofs.Ab.Area
end
section
/- The reference on points, polygons and boxes. -/
set_option maxRecDepth 100000
set_option linter.unusedVariables false
set_option linter.unusedSimpArgs false
namespace Go.Proofs.Ab.Area
open Go Go.RowKit Go.Proofs.Ab
theorem refWhen_pure {m : Int} (b : Bool) (n : Int) : APure (C m) 99 [Bo b, I n] (I (if b then n else 0)) := by
  refine APure.of_body good [] (fn := Tryz.f99) (by kernel_rfl) (by kernel_rfl) rfl rfl (by kernel_rfl) rfl (by kernel_rfl) ?_
  cases b
  · conv => whnf
    exact ⟨PLe.refl _⟩
  · conv => whnf
    exact ⟨PLe.refl _⟩
theorem refRange_pure {m : Int} (n least most : Int) : APure (C m) 102 [I n, I least, I most] (I (within n least most)) := by
  refine APure.of_body good [] (fn := Tryz.f102) (by kernel_rfl) (by kernel_rfl) rfl rfl (by kernel_rfl) rfl (by kernel_rfl) ?_
  conv => whnf
  repeat' (first
    | (refine SBool.mk (fun h => ?_) (fun h => ?_) <;> conv => whnf)
    | (refine SEx.mk _ (by first | exact refWhen_pure _ _) ?_; conv => whnf)
    | fail)
  all_goals exact ⟨PLe.of_eq (by simp [within, *])⟩
theorem refFirst_pure {m : Int} (xs : List Int) (hl : xs.length ≤ 4611686018427387904) : APure (C m) 98 [ints xs] (I (firstOf xs)) := by
  refine APure.of_body good [] (fn := Tryz.f98) (by kernel_rfl) (by kernel_rfl) rfl rfl (by kernel_rfl) rfl (by kernel_rfl) ?_
  conv => whnf
  refine ⟨AWp.loop (ι := { k : Nat // k ≤ xs.length ∧ firstOf xs = firstOf (xs.drop k) }) (fun k => ⟨[(3, .p (I k.1)), (0, .p (ints xs))], [], [], 0, [], [], []⟩) (fun k => xs.length - k.1) ⟨0, by simp⟩ ?_ ?_⟩
  · refine SLe.of [] [] rfl rfl ?_
    conv => whnf
    repeat' (first
    | exact True.intro
    | (refine SAnd.mk (PLe.refl _) ?_; conv => whnf))
  · rintro ⟨k, hk, he⟩
    refine codeK_sound good (mu := []) ?_
    conv => whnf
    refine SBool.mk (fun h => ?_) (fun h => ?_)
    · conv => whnf
      have hkl : k < xs.length := by simpa using h
      refine SEx.mk [I xs[k]] (by simp [hkl]) ?_
      conv => whnf
      refine SBool.mk (fun h0 => ?_) (fun h0 => ?_)
      · conv => whnf
        refine ⟨⟨k + 1, by omega, by rw [he, firstOf_drop hkl, if_pos h0]⟩, by simp only; omega, ?_⟩
        refine SLe.of [] [] rfl rfl ?_
        conv => whnf
        refine SAnd.mk (PLe.of_eq (by simp only [wrapK]; rw [wrap_id (by omega) (by omega)]; simp)) ?_
        conv => whnf
        refine SAnd.mk (PLe.refl _) ?_
        exact True.intro
      · conv => whnf
        refine SEx.mk [I xs[k]] (by simp [hkl]) ?_
        conv => whnf
        exact ⟨PLe.of_eq (by rw [he, firstOf_drop hkl, if_neg h0])⟩
    · conv => whnf
      have : k = xs.length := by simp at h; omega
      exact ⟨PLe.of_eq (by rw [he, this]; simp [firstOf])⟩
theorem refFirst2_pure {m : Int} (a b : Int) : APure (C m) 98 [.seq 1 [[I a], [I b]]] (I (firstOf [a, b])) := refFirst_pure [a, b] (by simp)
theorem refFirst3_pure {m : Int} (a b c : Int) : APure (C m) 98 [.seq 1 [[I a], [I b], [I c]]] (I (firstOf [a, b, c])) := refFirst_pure [a, b, c] (by simp)
theorem refFirst4_pure {m : Int} (a b c d : Int) : APure (C m) 98 [.seq 1 [[I a], [I b], [I c], [I d]]] (I (firstOf [a, b, c, d])) := refFirst_pure [a, b, c, d] (by simp)
theorem refPoint_pure {m : Int} (p : Pt) : APure (C m) 20 [.agg (pc p)] (I (ptE p)) := by
  refine APure.of_body good [] (fn := Tryz.f20) (by kernel_rfl) (by kernel_rfl) rfl rfl (by kernel_rfl) rfl (by kernel_rfl) ?_
  conv => whnf
  repeat' (first
    | (refine SEx.mk _ (by first | exact refRange_pure _ _ _ | exact refFirst2_pure _ _) ?_; conv => whnf)
    | (refine SAnd.mk (by first | exact rfl | kernel_rfl | omega | decide | exact refRange_pure _ _ _ | exact refFirst2_pure _ _) ?_; conv => whnf)
    | fail)
  exact ⟨PLe.refl _⟩
theorem refCross_pure {m : Int} (a b p : Pt) (ha : a.Fit) (hb : b.Fit) (hp : p.Fit) : APure (C m) 100 [.agg (pc a), .agg (pc b), .agg (pc p)] (I (cr a b p)) := by
  have s1 := sub_small hb.x ha.x
  have s2 := sub_small hp.y ha.y
  have s3 := sub_small hb.y ha.y
  have s4 := sub_small hp.x ha.x
  have m1 := mul_small s1 s2
  have m2 := mul_small s3 s4
  have e1 : wrapK IntKind.i64 (b.x - a.x) = b.x - a.x := w64 (Nat.le_trans s1 (by decide))
  have e2 : wrapK IntKind.i64 (p.y - a.y) = p.y - a.y := w64 (Nat.le_trans s2 (by decide))
  have e3 : wrapK IntKind.i64 (b.y - a.y) = b.y - a.y := w64 (Nat.le_trans s3 (by decide))
  have e4 : wrapK IntKind.i64 (p.x - a.x) = p.x - a.x := w64 (Nat.le_trans s4 (by decide))
  have e5 : wrapK IntKind.i64 ((b.x - a.x) * (p.y - a.y)) = (b.x - a.x) * (p.y - a.y) := w64 (Nat.le_trans m1 (by decide))
  have e6 : wrapK IntKind.i64 ((b.y - a.y) * (p.x - a.x)) = (b.y - a.y) * (p.x - a.x) := w64 (Nat.le_trans m2 (by decide))
  have e7 : wrapK IntKind.i64 (cr a b p) = cr a b p := sub_w m1 m2
  refine APure.of_body good [] (fn := Tryz.f100) (by kernel_rfl) (by kernel_rfl) rfl rfl (by kernel_rfl) rfl (by kernel_rfl) ?_
  conv => whnf
  repeat' (first
    | fail)
  exact ⟨PLe.of_eq (by rw [e1, e2, e3, e4, e5, e6]; exact congrArg I e7)⟩
theorem refNext_pure {m : Int} (l : List Pt) (k : Nat) (h0 : 0 < l.length) (hk : k ≤ 1000000) : APure (C m) 101 [.seq 2 (l.map pc), I k] (.agg (pc (cor l (k + 1)))) := by
  have hlen : (((l.map pc).length : Nat) : Int) = l.length := by simp
  have hs1 := cor_some h0 k 1
  have hne : (l.length : Int) ≠ 0 := by omega
  have wk : wrapK IntKind.i64 ((k : Int) + 1) = k + 1 := w64 (by omega)
  refine APure.of_body good [] (fn := Tryz.f101) (by kernel_rfl) (by kernel_rfl) rfl rfl (by kernel_rfl) rfl (by kernel_rfl) ?_
  conv => whnf
  repeat' (first
    | (rw [wk]; conv => whnf)
    | (rw [hlen]; conv => whnf)
    | (refine SEx.mk _ (by first | exact hs1 | exact hne) ?_; conv => whnf)
    | (refine SAnd.mk (by first | exact hs1 | exact hne) ?_; conv => whnf)
    | fail)
  exact ⟨PLe.refl _⟩
theorem refNext1_pure {m : Int} (l : List Pt) (k : Nat) (h0 : 0 < l.length) (hk : k ≤ 100000) : APure (C m) 101 [.seq 2 (l.map pc), I ((k : Int) + 1)] (.agg (pc (cor l (k + 2)))) := refNext_pure l (k + 1) h0 (by omega)
theorem refIn_pure {m : Int} (l : List Pt) (p : Pt) (hl : l.length ≤ 1000) (hf : ∀ q ∈ l, q.Fit) (hp : p.Fit) : APure (C m) 22 [.seq 2 (l.map pc), .agg (pc p)] (Bo (inB l p)) := by
  have hlen : (((l.map pc).length : Nat) : Int) = l.length := by simp
  refine APure.of_body good [] (fn := Tryz.f22) (by kernel_rfl) (by kernel_rfl) rfl rfl (by kernel_rfl) rfl (by kernel_rfl) ?_
  conv => whnf
  refine ⟨AWp.loop (ι := { k : Nat // k ≤ l.length ∧ (List.range k).all (fun i => decide (0 ≤ cr (cor l i) (cor l (i + 1)) p)) = true }) (fun k => ⟨[(5, .p (I k.1)), (3, .p (.ref (pc p))), (0, .p (.seq 2 (l.map pc)))], [], [], 0, [], [], []⟩) (fun k => l.length - k.1) ⟨0, by simp⟩ ?_ ?_⟩
  · skip
    · refine SLe.of [] [] rfl rfl ?_
      conv => whnf
      repeat' (first
      | exact True.intro
      | (refine SAnd.mk (PLe.refl _) ?_; conv => whnf))
  · rintro ⟨k, hk, hall⟩
    refine codeK_sound good (mu := []) ?_
    conv => whnf
    refine SBool.mk (fun hcn => ?_) (fun hcn => ?_)
    · have hkl : k < l.length := by simpa using hcn
      have hs0 := cor_at hkl
      have hnx := refNext_pure (m := m) l k (by omega) (by omega)
      have wk : wrapK IntKind.i64 ((k : Int) + 1) = k + 1 := w64 (by omega)
      have hcr := refCross_pure (m := m) (cor l k) (cor l (k + 1)) p (hf _ (cor_mem (by omega) _)) (hf _ (cor_mem (by omega) _)) hp
      have hno : cr (cor l k) (cor l (k + 1)) p < 0 → inB l p = false := fun h => range_all_false hkl (decide_eq_false (by omega))
      have hyes : ¬ cr (cor l k) (cor l (k + 1)) p < 0 → (List.range (k + 1)).all (fun i => decide (0 ≤ cr (cor l i) (cor l (i + 1)) p)) = true := fun h => by rw [range_all, hall, decide_eq_true (by omega)]; rfl
      conv => whnf
      conv => whnf
      repeat' (first
        | (rw [wk]; conv => whnf)
        | (refine SBool.mk (fun h => ?_) (fun h => ?_) <;> conv => whnf)
        | (refine SEx.mk _ (by first | exact hs0 | exact hnx | exact hcr) ?_; conv => whnf)
        | (refine SAnd.mk (by first | exact rfl | kernel_rfl | omega | decide | exact hs0 | exact hnx | exact hcr) ?_; conv => whnf)
        | fail)
      · exact ⟨PLe.of_eq (congrArg Bo (hno (by assumption)).symm)⟩
      · refine ⟨⟨k + 1, hkl, hyes (by assumption)⟩, by simp only; omega, ?_⟩
        skip
        · refine SLe.of [] [] rfl rfl ?_
          conv => whnf
          repeat' (first
          | exact True.intro
          | (refine SAnd.mk (PLe.refl _) ?_; conv => whnf))
    · conv => whnf
      have : k = l.length := by simp at hcn; omega
      subst this
      exact ⟨PLe.of_eq (congrArg Bo hall.symm)⟩
def innerB (l : List Pt) (i k : Nat) : Bool := decide (cr (cor l i) (cor l (i + 1)) (cor l k) < 0) || (decide (k < i) && decide (cor l k = cor l i))
theorem badB_inner {l : List Pt} {i : Nat} (hi : i < l.length) : badB l i = (decide (cr (cor l i) (cor l (i + 1)) (cor l (i + 2)) ≤ 0) || (List.range l.length).any (innerB l i)) := by
  rw [Bool.eq_iff_iff]
  unfold badB
  rw [Bool.or_eq_true, Bool.or_eq_true, Bool.or_eq_true, List.any_eq_true, List.any_eq_true, List.any_eq_true]
  constructor
  · rintro ((⟨c, hc, h⟩ | h) | ⟨c, hc, h⟩)
    · obtain ⟨k, hk, rfl⟩ := mem_cor hc
      exact .inr ⟨k, List.mem_range.2 hk, by unfold innerB; rw [h]; rfl⟩
    · exact .inl h
    · obtain ⟨k, hk, e⟩ := List.getElem_of_mem hc
      rw [List.length_take] at hk
      have e2 : c = cor l k := by rw [cor_lt (by omega), ← e]; simp
      refine .inr ⟨k, List.mem_range.2 (by omega), ?_⟩
      unfold innerB
      rw [e2] at h
      rw [h, decide_eq_true (show k < i by omega)]
      simp
  · rintro (h | ⟨k, hk, h⟩)
    · exact .inl (.inr h)
    · have hk := List.mem_range.1 hk
      unfold innerB at h
      rw [Bool.or_eq_true, Bool.and_eq_true, decide_eq_true_eq, decide_eq_true_eq] at h
      rcases h with h | ⟨h1, h2⟩
      · exact .inl (.inl ⟨cor l k, cor_mem (by omega) k, decide_eq_true h⟩)
      · refine .inr ⟨cor l k, ?_, h2⟩
        have : (l.take i)[k]'(by rw [List.length_take]; omega) = cor l k := by rw [cor_lt hk]; simp
        rw [← this]
        exact List.getElem_mem _
noncomputable def c18 : Code := Tryz.f18.body.getD .skip
set_option maxHeartbeats 4000000 in
theorem refPoly2 {m : Int} (l : List Pt) (h3 : 3 ≤ l.length) (hl : l.length ≤ 1000) (hf : ∀ q ∈ l, q.Fit) :
    AWp (C m) Tryz.f18.ntmps (pieceAt [1, 1, 1] c18) (endV m [ResultVar.tmp 2] (I (if (List.range l.length).any (badB l) then 1 else 0))) ⟨[(0, .p (.seq 2 (l.map pc)))], [], [], 0, [], [], []⟩ := by
  have hlen : (((l.map pc).length : Nat) : Int) = l.length := by simp
  have hm : ∀ i, (cor l i).Fit := fun i => hf _ (cor_mem (by omega) i)
  refine codeK_sound good (mu := []) ?_
  conv => whnf
  refine ⟨AWp.loop (ι := { i : Nat // i ≤ l.length ∧ (List.range i).any (badB l) = false }) (fun i => ⟨[(6, .p (I i.1)), (0, .p (.seq 2 (l.map pc)))], [], [], 0, [], [], []⟩) (fun i => l.length - i.1) ⟨0, by simp⟩ ?_ ?_⟩
  · skip
    · refine SLe.of [] [] rfl rfl ?_
      conv => whnf
      repeat' (first
      | exact True.intro
      | (refine SAnd.mk (PLe.refl _) ?_; conv => whnf))
  · rintro ⟨i, hi, hI⟩
    refine codeK_sound good (mu := []) ?_
    conv => whnf
    refine SBool.mk (fun hc1 => ?_) (fun hc1 => ?_)
    · have hil : i < l.length := by simpa using hc1
      have hs0 := cor_at hil
      have hn1 := refNext_pure (m := m) l i (by omega) (by omega)
      have hn2 := refNext1_pure (m := m) l i (by omega) (by omega)
      have mi : l.length - (i + 1) < l.length - i := by omega
      have wi : wrapK IntKind.i64 ((i : Int) + 1) = i + 1 := w64 (by omega)
      have hcr := refCross_pure (m := m) (cor l i) (cor l (i + 1)) (cor l (i + 2)) (hm _) (hm _) (hm _)
      have hb := badB_inner hil
      have bad : badB l i = true → (if (List.range l.length).any (badB l) then (1 : Int) else 0) = 1 := fun h => by rw [if_pos (range_any_true hil h)]
      have nxt : badB l i = false → (List.range (i + 1)).any (badB l) = false := fun h => by rw [range_any, hI, h]; rfl
      conv => whnf
      conv => whnf
      repeat' (first
        | (rw [wi]; conv => whnf)
        | (refine SBool.mk (fun h => ?_) (fun h => ?_) <;> conv => whnf)
        | (refine SEx.mk _ (by first | exact hs0 | exact hn1 | exact hn2 | exact hcr) ?_; conv => whnf)
        | (refine SAnd.mk (by first | exact rfl | kernel_rfl | omega | decide | exact hs0 | exact hn1 | exact hn2 | exact hcr) ?_; conv => whnf)
        | fail)
      · exact ⟨PLe.of_eq (congrArg I (bad (by rw [hb, decide_eq_true (by assumption)]; rfl)).symm)⟩
      · rw [decide_eq_false (by assumption), Bool.false_or] at hb
        refine ⟨AWp.loop (ι := { k : Nat // k ≤ l.length ∧ (List.range k).any (innerB l i) = false }) (fun k => ⟨[(7, .p (I k.1)), (6, .p (I i)), (0, .p (.seq 2 (l.map pc)))], [], [], 0, [], [], []⟩) (fun k => l.length - k.1) ⟨0, by simp⟩ ?_ ?_⟩
        · skip
          · refine SLe.of [] [] rfl rfl ?_
            conv => whnf
            repeat' (first
            | exact True.intro
            | (refine SAnd.mk (PLe.refl _) ?_; conv => whnf))
        · rintro ⟨k, hk, hK⟩
          refine codeK_sound good (mu := []) ?_
          conv => whnf
          refine SBool.mk (fun hc2 => ?_) (fun hc2 => ?_)
          · have hkl : k < l.length := by simpa using hc2
            have hsk := cor_at hkl
            have mk : l.length - (k + 1) < l.length - k := by omega
            have wk : wrapK IntKind.i64 ((k : Int) + 1) = k + 1 := w64 (by omega)
            have hcr2 := refCross_pure (m := m) (cor l i) (cor l (i + 1)) (cor l k) (hm _) (hm _) (hm _)
            have heq : EqAgg (C m) 24 (pc (cor l k)) (pc (cor l i)) (decide (cor l i = cor l k)) := by rw [pt_eq]; exact eq_point (cor l k) (cor l i)
            have hin : innerB l i k = (decide (cr (cor l i) (cor l (i + 1)) (cor l k) < 0) || (decide (k < i) && decide (cor l k = cor l i))) := rfl
            have hsym : decide (cor l k = cor l i) = decide (cor l i = cor l k) := by rw [decide_eq_decide]; exact eq_comm
            rw [hsym] at hin
            have hbd : innerB l i k = true → (if (List.range l.length).any (badB l) then (1 : Int) else 0) = 1 := fun h => bad (by rw [hb]; exact range_any_true hkl h)
            have hnk : innerB l i k = false → (List.range (k + 1)).any (innerB l i) = false := fun h => by rw [range_any, hK, h]; rfl
            generalize decide (cor l i = cor l k) = e at heq hin
            conv => whnf
            cases e
            all_goals
              conv => whnf
              repeat' (first
                | (rw [wk]; conv => whnf)
                | (refine SBool.mk (fun _ => ?_) (fun h => absurd (of_decide_eq_true rfl) h); conv => whnf)
                | (refine SBool.mk (fun h => absurd h (of_decide_eq_false rfl)) (fun _ => ?_); conv => whnf)
                | (refine SBool.mk (fun h => ?_) (fun h => ?_) <;> conv => whnf)
                | (refine SEx.mk _ (by first | exact hs0 | exact hsk | exact hn1 | exact hcr2 | exact heq) ?_; conv => whnf)
                | (refine SAnd.mk (by first | exact rfl | kernel_rfl | omega | decide | exact hs0 | exact hsk | exact hn1 | exact hcr2 | exact heq) ?_; conv => whnf)
                | fail)
              all_goals first
                | exact ⟨PLe.of_eq (congrArg I (hbd (by rw [hin, decide_eq_true (by assumption)]; rfl)).symm)⟩
                | exact ⟨PLe.of_eq (congrArg I (hbd (by rw [hin, decide_eq_true (show k < i from Int.ofNat_lt.1 (by assumption)), Bool.or_eq_true]; exact .inr rfl)).symm)⟩
                | skip
              all_goals
                refine ⟨⟨k + 1, hkl, hnk (by first | (rw [hin, decide_eq_false (by assumption), Bool.and_false]; rfl) | (rw [hin, decide_eq_false (by assumption), decide_eq_false (show ¬ k < i from fun hh => absurd (Int.ofNat_lt.2 hh) (by assumption))]; rfl))⟩, mk, ?_⟩
                skip
                · refine SLe.of [] [] rfl rfl ?_
                  conv => whnf
                  repeat' (first
                  | exact True.intro
                  | (refine SAnd.mk (PLe.refl _) ?_; conv => whnf))
          · have : k = l.length := by simp at hc2; omega
            subst this
            conv => whnf
            repeat' (first
              | (rw [wi]; conv => whnf)
              | fail)
            refine ⟨⟨i + 1, hil, nxt (by rw [hb]; exact hK)⟩, mi, ?_⟩
            skip
            · refine SLe.of [] [] rfl rfl ?_
              conv => whnf
              repeat' (first
              | exact True.intro
              | (refine SAnd.mk (PLe.refl _) ?_; conv => whnf))
    · conv => whnf
      have : i = l.length := by simp at hc1; omega
      subst this
      exact ⟨PLe.of_eq (congrArg I (by rw [if_neg (by rw [hI]; simp)]))⟩
end Go.Proofs.Ab.Area
end
section
/- The reference's names: a word among others. -/
set_option maxRecDepth 100000
set_option linter.unusedVariables false
set_option linter.unusedSimpArgs false
namespace Go.Proofs.Ab.Area
open Go Go.RowKit Go.Proofs.Ab
abbrev cS (s : ByteArray) : List PV := [St s]
theorem hasWord_pure {m : Int} (l : List ByteArray) (s : ByteArray) (hl : l.length ≤ 1000000) : APure (C m) 120 [.seq 1 (l.map cS), St s] (Bo (knownB l s)) := by
  have hlen : (((l.map cS).length : Nat) : Int) = l.length := by simp
  refine APure.of_body good [] (fn := Tryz.f120) (by kernel_rfl) (by kernel_rfl) rfl rfl (by kernel_rfl) rfl (by kernel_rfl) ?_
  conv => whnf
  repeat' (first
    | fail)
  refine ⟨AWp.loop (ι := { k : Nat // k ≤ l.length ∧ knownB l s = knownB (l.drop k) s }) (fun k => ⟨[(5, .p (I k.1)), (1, .p (St s)), (0, .p (.seq 1 (l.map cS)))], [], [], 0, [], [], []⟩) (fun k => l.length - k.1) ⟨0, by simp, rfl⟩ ?_ ?_⟩
  · skip
    · refine SLe.of [] [] rfl rfl ?_
      conv => whnf
      repeat' (first
      | exact True.intro
      | (refine SAnd.mk (PLe.refl _) ?_; conv => whnf))
  · rintro ⟨k, hk, he⟩
    refine codeK_sound good (mu := []) ?_
    conv => whnf
    refine SBool.mk (fun hc => ?_) (fun hc => ?_)
    · have hc' : (k : Int) < (((l.map cS).length : Nat) : Int) := hc
      have hkl : k < l.length := by rw [hlen] at hc'; omega
      have hs := some_at hkl cS
      have mk := sub_lt hkl
      have wk := wsucc (k := k) (by omega)
      have hst : knownB (l.drop k) s = (decide (l[k] = s) || knownB (l.drop (k + 1)) s) := by
        rw [List.drop_eq_getElem_cons hkl]
        rfl
      have hq := fun w => eql_string (m := m) 9 l[k] s w
      clear hc hc'
      by_cases hx : l[k] = s
      · rw [decide_eq_true hx] at hq hst
        skip
        conv => whnf
        repeat' (first
          | (refine SBool.mk (fun _ => ?_) (fun h => absurd (of_decide_eq_true rfl) h); conv => whnf)
          | (refine SEx.mk _ (by first | exact hs | exact hq) ?_; conv => whnf)
          | fail)
        exact ⟨PLe.of_eq (by rw [he, hst]; rfl)⟩
      · rw [decide_eq_false hx] at hq hst
        skip
        conv => whnf
        repeat' (first
          | (rw [wk]; conv => whnf)
          | (refine SBool.mk (fun h => absurd h (of_decide_eq_false rfl)) (fun _ => ?_); conv => whnf)
          | (refine SEx.mk _ (by first | exact hs | exact hq) ?_; conv => whnf)
          | fail)
        refine ⟨⟨k + 1, hkl, he.trans (hst.trans (Bool.false_or _))⟩, mk, ?_⟩
        skip
        · refine SLe.of [] [] rfl rfl ?_
          conv => whnf
          repeat' (first
          | exact True.intro
          | (refine SAnd.mk (PLe.refl _) ?_; conv => whnf))
    · have hc' : ¬ (k : Int) < (((l.map cS).length : Nat) : Int) := hc
      have hkr : k = l.length := by rw [hlen] at hc'; omega
      subst hkr
      skip
      conv => whnf
      repeat' (first
        | fail)
      exact ⟨PLe.of_eq (by rw [he, List.drop_length]; rfl)⟩
end Go.Proofs.Ab.Area
end
section
/- Lists compared; areas handed over. -/
set_option maxRecDepth 100000
set_option linter.unusedVariables false
set_option linter.unusedSimpArgs false
namespace Go.Proofs.Ab.Area
open Go Go.RowKit Go.Proofs.Ab
theorem take_eq_succ {α : Type} {a b : List α} {k : Nat} (ha : k < a.length) (hb : k < b.length) (h : a.take k = b.take k) (he : a[k] = b[k]) : a.take (k + 1) = b.take (k + 1) := by
  rw [List.take_succ_eq_append_getElem ha, List.take_succ_eq_append_getElem hb, h, he]
theorem take_ne {α : Type} {a b : List α} {k : Nat} (ha : k < a.length) (hb : k < b.length) (he : ¬ a[k] = b[k]) : a ≠ b := fun e => he (by subst e; rfl)
theorem sameInts_pure {m : Int} (a b : List Int) (hl : a.length ≤ 1000000) (hl2 : b.length ≤ 1000000) : APure (C m) 72 [.seq 1 (a.map cI), .seq 1 (b.map cI)] (Bo (decide (a = b))) := by
  have ea : (a.map cI).length = a.length := by simp
  have eb : (b.map cI).length = b.length := by simp
  refine APure.of_body good [] (fn := Tryz.f72) (by kernel_rfl) (by kernel_rfl) rfl rfl (by kernel_rfl) rfl (by kernel_rfl) ?_
  conv => whnf
  repeat' (first
    | (refine SBool.mk (fun h => ?_) (fun h => ?_) <;> conv => whnf)
    | fail)
  · have hab : a.length = b.length := by rw [ea, eb] at h; omega
    clear h
    refine ⟨AWp.loop (ι := { k : Nat // k ≤ a.length ∧ a.take k = b.take k }) (fun k => ⟨[(5, .p (I k.1)), (1, .p (.seq 1 (b.map cI))), (0, .p (.seq 1 (a.map cI)))], [], [], 0, [], [], []⟩) (fun k => a.length - k.1) ⟨0, by simp⟩ ?_ ?_⟩
    · skip
      · refine SLe.of [] [] rfl rfl ?_
        conv => whnf
        repeat' (first
        | exact True.intro
        | (refine SAnd.mk (PLe.refl _) ?_; conv => whnf))
    · rintro ⟨k, hk, hab2⟩
      refine codeK_sound good (mu := []) ?_
      conv => whnf
      refine SBool.mk (fun hc => ?_) (fun hc => ?_)
      · have hc' : (k : Int) < ((a.map cI).length : Int) := hc
        have hkl : k < a.length := by rw [ea] at hc'; omega
        have hkb : k < b.length := by omega
        have hea := some_at hkl cI
        have heb := some_at hkb cI
        have mk := sub_lt hkl
        have wk := wsucc (k := k) (by omega)
        clear hc hc'
        by_cases he : a[k] = b[k]
        · have hnx := take_eq_succ hkl hkb hab2 he
          rw [← he] at heb
          generalize a[k] = x at hea heb
          skip
          conv => whnf
          repeat' (first
            | (rw [wk]; conv => whnf)
            | (refine SBool.mk (fun h => ?_) (fun h => ?_) <;> conv => whnf)
            | (refine SEx.mk _ (by first | exact hea | exact heb) ?_; conv => whnf)
            | (refine SAnd.mk (by first | exact rfl | kernel_rfl | omega | decide | exact hea | exact heb) ?_; conv => whnf)
            | fail)
          all_goals first
            | exact absurd rfl (by assumption)
            | skip
          refine ⟨⟨k + 1, hkl, hnx⟩, mk, ?_⟩
          skip
          · refine SLe.of [] [] rfl rfl ?_
            conv => whnf
            repeat' (first
            | exact True.intro
            | (refine SAnd.mk (PLe.refl _) ?_; conv => whnf))
        · have hne := take_ne hkl hkb he
          rw [decide_eq_false hne]
          generalize a[k] = x at hea he
          generalize b[k] = y at heb he
          skip
          conv => whnf
          repeat' (first
            | (rw [wk]; conv => whnf)
            | (refine SBool.mk (fun h => ?_) (fun h => ?_) <;> conv => whnf)
            | (refine SEx.mk _ (by first | exact hea | exact heb) ?_; conv => whnf)
            | (refine SAnd.mk (by first | exact rfl | kernel_rfl | omega | decide | exact hea | exact heb) ?_; conv => whnf)
            | fail)
          all_goals first
            | exact ⟨PLe.refl _⟩
            | exact absurd (by assumption) he
      · have hc' : ¬ (k : Int) < ((a.map cI).length : Int) := hc
        have hkl : k = a.length := by rw [ea] at hc'; omega
        have e : a = b := by
          rw [hkl, List.take_length] at hab2
          rw [hab2, hab, List.take_length]
        skip
        conv => whnf
        repeat' (first
          | fail)
        exact ⟨PLe.of_eq (by rw [decide_eq_true e])⟩
  · have hab : a ≠ b := fun e => by subst e; exact h rfl
    exact ⟨PLe.of_eq (by rw [decide_eq_false hab])⟩
theorem sameWords_pure {m : Int} (a b : List ByteArray) (hl : a.length ≤ 1000000) (hl2 : b.length ≤ 1000000) : APure (C m) 39 [.seq 1 (a.map cS), .seq 1 (b.map cS)] (Bo (decide (a = b))) := by
  have ea : (a.map cS).length = a.length := by simp
  have eb : (b.map cS).length = b.length := by simp
  refine APure.of_body good [] (fn := Tryz.f39) (by kernel_rfl) (by kernel_rfl) rfl rfl (by kernel_rfl) rfl (by kernel_rfl) ?_
  conv => whnf
  repeat' (first
    | (refine SBool.mk (fun h => ?_) (fun h => ?_) <;> conv => whnf)
    | fail)
  · have hab : a.length = b.length := by rw [ea, eb] at h; omega
    clear h
    refine ⟨AWp.loop (ι := { k : Nat // k ≤ a.length ∧ a.take k = b.take k }) (fun k => ⟨[(5, .p (I k.1)), (1, .p (.seq 1 (b.map cS))), (0, .p (.seq 1 (a.map cS)))], [], [], 0, [], [], []⟩) (fun k => a.length - k.1) ⟨0, by simp⟩ ?_ ?_⟩
    · skip
      · refine SLe.of [] [] rfl rfl ?_
        conv => whnf
        repeat' (first
        | exact True.intro
        | (refine SAnd.mk (PLe.refl _) ?_; conv => whnf))
    · rintro ⟨k, hk, hab2⟩
      refine codeK_sound good (mu := []) ?_
      conv => whnf
      refine SBool.mk (fun hc => ?_) (fun hc => ?_)
      · have hc' : (k : Int) < ((a.map cS).length : Int) := hc
        have hkl : k < a.length := by rw [ea] at hc'; omega
        have hkb : k < b.length := by omega
        have hea := some_at hkl cS
        have heb := some_at hkb cS
        have mk := sub_lt hkl
        have wk := wsucc (k := k) (by omega)
        clear hc hc'
        by_cases he : a[k] = b[k]
        · have hnx := take_eq_succ hkl hkb hab2 he
          rw [← he] at heb
          generalize a[k] = x at hea heb
          have hq := fun w => neq_string (m := m) 9 x x w
          rw [show decide (x ≠ x) = false from decide_eq_false (fun h => h rfl)] at hq
          conv => whnf
          repeat' (first
            | (rw [wk]; conv => whnf)
            | (refine SBool.mk (fun h => absurd h (of_decide_eq_false rfl)) (fun _ => ?_); conv => whnf)
            | (refine SEx.mk _ (by first | exact hea | exact heb | exact hq) ?_; conv => whnf)
            | (refine SAnd.mk (by first | exact rfl | kernel_rfl | omega | decide | exact hea | exact heb | exact hq) ?_; conv => whnf)
            | fail)
          all_goals first
            | exact absurd rfl (by assumption)
            | skip
          refine ⟨⟨k + 1, hkl, hnx⟩, mk, ?_⟩
          skip
          · refine SLe.of [] [] rfl rfl ?_
            conv => whnf
            repeat' (first
            | exact True.intro
            | (refine SAnd.mk (PLe.refl _) ?_; conv => whnf))
        · have hne := take_ne hkl hkb he
          rw [decide_eq_false hne]
          generalize a[k] = x at hea he
          generalize b[k] = y at heb he
          have hq := fun w => neq_string (m := m) 9 x y w
          rw [show decide (x ≠ y) = true from decide_eq_true he] at hq
          conv => whnf
          repeat' (first
            | (refine SBool.mk (fun _ => ?_) (fun h => absurd (of_decide_eq_true rfl) h); conv => whnf)
            | (refine SEx.mk _ (by first | exact hea | exact heb | exact hq) ?_; conv => whnf)
            | (refine SAnd.mk (by first | exact rfl | kernel_rfl | omega | decide | exact hea | exact heb | exact hq) ?_; conv => whnf)
            | fail)
          all_goals exact ⟨PLe.refl _⟩
      · have hc' : ¬ (k : Int) < ((a.map cS).length : Int) := hc
        have hkl : k = a.length := by rw [ea] at hc'; omega
        have e : a = b := by
          rw [hkl, List.take_length] at hab2
          rw [hab2, hab, List.take_length]
        skip
        conv => whnf
        repeat' (first
          | fail)
        exact ⟨PLe.of_eq (by rw [decide_eq_true e])⟩
  · have hab : a ≠ b := fun e => by subst e; exact h rfl
    exact ⟨PLe.of_eq (by rw [decide_eq_false hab])⟩
theorem samePts_pure {m : Int} (a b : List Pt) (hl : a.length ≤ 1000000) (hl2 : b.length ≤ 1000000) : APure (C m) 172 [.seq 2 (a.map pc), .seq 2 (b.map pc)] (Bo (decide (a = b))) := by
  have ea : (a.map pc).length = a.length := by simp
  have eb : (b.map pc).length = b.length := by simp
  refine APure.of_body good [] (fn := Tryz.f172) (by kernel_rfl) (by kernel_rfl) rfl rfl (by kernel_rfl) rfl (by kernel_rfl) ?_
  conv => whnf
  repeat' (first
    | (refine SBool.mk (fun h => ?_) (fun h => ?_) <;> conv => whnf)
    | fail)
  · have hab : a.length = b.length := by rw [ea, eb] at h; omega
    clear h
    refine ⟨AWp.loop (ι := { k : Nat // k ≤ a.length ∧ a.take k = b.take k }) (fun k => ⟨[(5, .p (I k.1)), (1, .p (.seq 2 (b.map pc))), (0, .p (.seq 2 (a.map pc)))], [], [], 0, [], [], []⟩) (fun k => a.length - k.1) ⟨0, by simp⟩ ?_ ?_⟩
    · skip
      · refine SLe.of [] [] rfl rfl ?_
        conv => whnf
        repeat' (first
        | exact True.intro
        | (refine SAnd.mk (PLe.refl _) ?_; conv => whnf))
    · rintro ⟨k, hk, hab2⟩
      refine codeK_sound good (mu := []) ?_
      conv => whnf
      refine SBool.mk (fun hc => ?_) (fun hc => ?_)
      · have hc' : (k : Int) < ((a.map pc).length : Int) := hc
        have hkl : k < a.length := by rw [ea] at hc'; omega
        have hkb : k < b.length := by omega
        have hea := some_at hkl pc
        have heb := some_at hkb pc
        have mk := sub_lt hkl
        have wk := wsucc (k := k) (by omega)
        clear hc hc'
        by_cases he : a[k] = b[k]
        · have hnx := take_eq_succ hkl hkb hab2 he
          rw [← he] at heb
          generalize a[k] = x at hea heb
          have hq : EqAgg (C m) 24 (pc x) (pc x) true := by have := eq_point (m := m) x x; rw [decide_eq_true ⟨rfl, rfl⟩] at this; exact this
          conv => whnf
          repeat' (first
            | (rw [wk]; conv => whnf)
            | (refine SBool.mk (fun _ => ?_) (fun h => absurd (of_decide_eq_true rfl) h); conv => whnf)
            | (refine SEx.mk _ (by first | exact hea | exact heb | exact hq) ?_; conv => whnf)
            | (refine SAnd.mk (by first | exact rfl | kernel_rfl | omega | decide | exact hea | exact heb | exact hq) ?_; conv => whnf)
            | fail)
          all_goals first
            | exact absurd rfl (by assumption)
            | skip
          refine ⟨⟨k + 1, hkl, hnx⟩, mk, ?_⟩
          skip
          · refine SLe.of [] [] rfl rfl ?_
            conv => whnf
            repeat' (first
            | exact True.intro
            | (refine SAnd.mk (PLe.refl _) ?_; conv => whnf))
        · have hne := take_ne hkl hkb he
          rw [decide_eq_false hne]
          generalize a[k] = x at hea he
          generalize b[k] = y at heb he
          have hq : EqAgg (C m) 24 (pc x) (pc y) false := by have := eq_point (m := m) x y; rw [decide_eq_false (fun h => he (by cases x; cases y; simp at h; simp [h]))] at this; exact this
          conv => whnf
          repeat' (first
            | (refine SBool.mk (fun h => absurd h (of_decide_eq_false rfl)) (fun _ => ?_); conv => whnf)
            | (refine SEx.mk _ (by first | exact hea | exact heb | exact hq) ?_; conv => whnf)
            | (refine SAnd.mk (by first | exact rfl | kernel_rfl | omega | decide | exact hea | exact heb | exact hq) ?_; conv => whnf)
            | fail)
          all_goals exact ⟨PLe.refl _⟩
      · have hc' : ¬ (k : Int) < ((a.map pc).length : Int) := hc
        have hkl : k = a.length := by rw [ea] at hc'; omega
        have e : a = b := by
          rw [hkl, List.take_length] at hab2
          rw [hab2, hab, List.take_length]
        skip
        conv => whnf
        repeat' (first
          | fail)
        exact ⟨PLe.of_eq (by rw [decide_eq_true e])⟩
  · have hab : a ≠ b := fun e => by subst e; exact h rfl
    exact ⟨PLe.of_eq (by rw [decide_eq_false hab])⟩
end Go.Proofs.Ab.Area
end
section
/- Lists of areas compared; areas handed over. -/
set_option maxRecDepth 100000
set_option linter.unusedVariables false
set_option linter.unusedSimpArgs false
namespace Go.Proofs.Ab.Area
open Go Go.RowKit Go.Proofs.Ab
theorem ar_ext {a b : Ar} (h : a.name = b.name ∧ a.size = b.size ∧ a.cat = b.cat ∧ a.poly = b.poly) : a = b := by
  obtain ⟨n, s, c, p⟩ := a
  obtain ⟨n', s', c', p'⟩ := b
  obtain ⟨h1, h2, h3, h4⟩ := h
  simp only at h1 h2 h3 h4
  subst h1 h2 h3 h4
  rfl
instance : DecidableEq Ar := fun a b => decidable_of_iff (a.name = b.name ∧ a.size = b.size ∧ a.cat = b.cat ∧ a.poly = b.poly) ⟨ar_ext, fun h => by subst h; exact ⟨rfl, rfl, rfl, rfl⟩⟩
set_option maxHeartbeats 4000000 in
theorem sameAreas_pure {m : Int} (a b : List Ar) (hl : a.length ≤ 1000000) (hl2 : b.length ≤ 1000000) (hpa : ∀ x ∈ a, x.poly.length ≤ 1000000) (hpb : ∀ x ∈ b, x.poly.length ≤ 1000000) : APure (C m) 81 [.seq 4 (a.map ac), .seq 4 (b.map ac)] (Bo (decide (a = b))) := by
  have ea : (a.map ac).length = a.length := by simp
  have eb : (b.map ac).length = b.length := by simp
  refine APure.of_body good [] (fn := Tryz.f81) (by kernel_rfl) (by kernel_rfl) rfl rfl (by kernel_rfl) rfl (by kernel_rfl) ?_
  conv => whnf
  repeat' (first
    | (refine SBool.mk (fun h => ?_) (fun h => ?_) <;> conv => whnf)
    | fail)
  · have hab : a.length = b.length := by rw [ea, eb] at h; omega
    clear h
    refine ⟨AWp.loop (ι := { k : Nat // k ≤ a.length ∧ a.take k = b.take k }) (fun k => ⟨[(5, .p (I k.1)), (1, .p (.seq 4 (b.map ac))), (0, .p (.seq 4 (a.map ac)))], [], [], 0, [], [], []⟩) (fun k => a.length - k.1) ⟨0, by simp⟩ ?_ ?_⟩
    · skip
      · refine SLe.of [] [] rfl rfl ?_
        conv => whnf
        repeat' (first
        | exact True.intro
        | (refine SAnd.mk (PLe.refl _) ?_; conv => whnf))
    · rintro ⟨k, hk, hab2⟩
      refine codeK_sound good (mu := []) ?_
      conv => whnf
      refine SBool.mk (fun hc => ?_) (fun hc => ?_)
      · have hc' : (k : Int) < ((a.map ac).length : Int) := hc
        have hkl : k < a.length := by rw [ea] at hc'; omega
        have hkb : k < b.length := by omega
        have hea := some_at hkl ac
        have heb := some_at hkb ac
        have mk := sub_lt hkl
        have wk := wsucc (k := k) (by omega)
        clear hc hc'
        by_cases he : a[k] = b[k]
        · have hnx := take_eq_succ hkl hkb hab2 he
          rw [← he] at heb
          have hp1 := hpa _ (List.getElem_mem hkl)
          generalize a[k] = x at hea heb hp1
          have hq := fun w => neq_string (m := m) 9 x.name x.name w
          rw [show decide (x.name ≠ x.name) = false from decide_eq_false (fun h => h rfl)] at hq
          have hsp : APure (C m) 172 [.seq 2 (x.poly.map pc), .seq 2 (x.poly.map pc)] (Bo true) := by have := samePts_pure (m := m) x.poly x.poly hp1 hp1; rw [decide_eq_true rfl] at this; exact this
          conv => whnf
          repeat' (first
            | (rw [wk]; conv => whnf)
            | (refine SBool.mk (fun h => absurd h (of_decide_eq_false rfl)) (fun _ => ?_); conv => whnf)
            | (refine SBool.mk (fun h => ?_) (fun h => ?_) <;> conv => whnf)
            | (refine SEx.mk _ (by first | exact hea | exact heb | exact hq | exact hsp) ?_; conv => whnf)
            | (refine SAnd.mk (by first | exact rfl | kernel_rfl | omega | decide | exact hea | exact heb | exact hq | exact hsp) ?_; conv => whnf)
            | fail)
          all_goals first
            | exact absurd rfl (by assumption)
            | skip
          refine ⟨⟨k + 1, hkl, hnx⟩, mk, ?_⟩
          skip
          · refine SLe.of [] [] rfl rfl ?_
            conv => whnf
            repeat' (first
            | exact True.intro
            | (refine SAnd.mk (PLe.refl _) ?_; conv => whnf))
        · have hne := take_ne hkl hkb he
          rw [decide_eq_false hne]
          have hp1 := hpa _ (List.getElem_mem hkl)
          have hp2 := hpb _ (List.getElem_mem hkb)
          generalize a[k] = x at hea he hp1
          generalize b[k] = y at heb he hp2
          have hq := fun w => neq_string (m := m) 9 x.name y.name w
          have hsp := samePts_pure (m := m) x.poly y.poly hp1 hp2
          by_cases hn : x.name = y.name
          · rw [show decide (x.name ≠ y.name) = false from decide_eq_false (fun h => h hn)] at hq
            by_cases hp : x.poly = y.poly
            · rw [decide_eq_true hp] at hsp
              conv => whnf
              repeat' (first
                | (rw [wk]; conv => whnf)
                | (refine SBool.mk (fun h => absurd h (of_decide_eq_false rfl)) (fun _ => ?_); conv => whnf)
                | (refine SBool.mk (fun h => ?_) (fun h => ?_) <;> conv => whnf)
                | (refine SEx.mk _ (by first | exact hea | exact heb | exact hq | exact hsp) ?_; conv => whnf)
                | (refine SAnd.mk (by first | exact rfl | kernel_rfl | omega | decide | exact hea | exact heb | exact hq | exact hsp) ?_; conv => whnf)
                | fail)
              all_goals first
                | exact ⟨PLe.refl _⟩
                | exact absurd (ar_ext ⟨hn, by assumption, by assumption, hp⟩) he
            · rw [decide_eq_false hp] at hsp
              conv => whnf
              repeat' (first
                | (refine SBool.mk (fun h => absurd h (of_decide_eq_false rfl)) (fun _ => ?_); conv => whnf)
                | (refine SBool.mk (fun h => ?_) (fun h => ?_) <;> conv => whnf)
                | (refine SEx.mk _ (by first | exact hea | exact heb | exact hq | exact hsp) ?_; conv => whnf)
                | (refine SAnd.mk (by first | exact rfl | kernel_rfl | omega | decide | exact hea | exact heb | exact hq | exact hsp) ?_; conv => whnf)
                | fail)
              all_goals exact ⟨PLe.refl _⟩
          · rw [show decide (x.name ≠ y.name) = true from decide_eq_true hn] at hq
            conv => whnf
            repeat' (first
              | (refine SBool.mk (fun _ => ?_) (fun h => absurd (of_decide_eq_true rfl) h); conv => whnf)
              | (refine SEx.mk _ (by first | exact hea | exact heb | exact hq | exact hsp) ?_; conv => whnf)
              | (refine SAnd.mk (by first | exact rfl | kernel_rfl | omega | decide | exact hea | exact heb | exact hq | exact hsp) ?_; conv => whnf)
              | fail)
            all_goals exact ⟨PLe.refl _⟩
      · have hc' : ¬ (k : Int) < ((a.map ac).length : Int) := hc
        have hkl : k = a.length := by rw [ea] at hc'; omega
        have e : a = b := by
          rw [hkl, List.take_length] at hab2
          rw [hab2, hab, List.take_length]
        skip
        conv => whnf
        repeat' (first
          | fail)
        exact ⟨PLe.of_eq (by rw [decide_eq_true e])⟩
  · have hab : a ≠ b := fun e => by subst e; exact h rfl
    exact ⟨PLe.of_eq (by rw [decide_eq_false hab])⟩
theorem told_pure {m : Int} (l : List Ar) (hl : l.length ≤ 1000000) : APure (C m) 82 [.seq 4 (l.map ac)] (.seq 4 (l.map ac)) := by
  have hlen : (((l.map ac).length : Nat) : Int) = l.length := by simp
  refine APure.of_body good [] (fn := Tryz.f82) (by kernel_rfl) (by kernel_rfl) rfl rfl (by kernel_rfl) rfl (by kernel_rfl) ?_
  conv => whnf
  repeat' (first
    | (rw [hlen]; conv => whnf)
    | fail)
  refine ⟨AWp.loop (ι := { k : Nat // k ≤ l.length }) (fun k => ⟨[(8, .p (I k.1)), (7, .p (I l.length)), (6, .p (.seq 4 (l.map ac))), (3, .own 0)], [], [(0, (178, 4, (l.take k.1).map ac))], 1, [], [], []⟩) (fun k => l.length - k.1) ⟨0, by simp⟩ ?_ ?_⟩
  · refine SLe.row 3 178 4 ?_
    conv => whnf
    skip
    · refine SLe.of [] [(0, 0)] rfl rfl ?_
      conv => whnf
      repeat' (first
      | exact True.intro
      | (refine SAnd.mk (PLe.refl _) ?_; conv => whnf)
      | (refine SAnd.mk rfl ?_; conv => whnf))
  · rintro ⟨k, hk⟩
    refine codeK_sound good (mu := []) ?_
    conv => whnf
    refine SBool.mk (fun hc => ?_) (fun hc => ?_)
    · have hkl : k < l.length := by simpa using hc
      have hs := some_at hkl ac
      have mk := sub_lt hkl
      have hts := take_map_succ hkl ac
      have hap : (∀ c ∈ [ac l[k]].flatten, c.one = true) ∧ (((l.take k).map ac).length + 1) * 56 ≤ 140737488355328 ∧ ((l.take k).map ac).length + 1 ≤ 9223372036854775807 := ⟨ar_one _, by rw [List.length_map, List.length_take]; omega, by rw [List.length_map, List.length_take]; omega⟩
      have wk := wsucc (k := k) (by omega)
      clear hc
      conv => whnf
      skip
      conv => whnf
      repeat' (first
        | (rw [wk]; conv => whnf)
        | (refine SEx.mk _ (by first | exact hs | exact hap) ?_; conv => whnf)
        | (refine SAnd.mk (by first | exact hs | exact hap) ?_; conv => whnf)
        | fail)
      refine ⟨⟨k + 1, hkl⟩, mk, ?_⟩
      skip
      · refine SLe.of [] [(0, 2)] rfl rfl ?_
        conv => whnf
        repeat' (first
        | exact True.intro
        | (refine SAnd.mk (hts.symm) ?_; conv => whnf)
        | (refine SAnd.mk (PLe.refl _) ?_; conv => whnf))
    · have : k = l.length := by simp at hc; omega
      subst this
      skip
      conv => whnf
      repeat' (first
        | fail)
      exact ⟨PLe.of_eq (by rw [List.take_length])⟩
end Go.Proofs.Ab.Area
end
section
/- Earliest: the ticks that are tried, in order. -/
set_option maxRecDepth 100000
set_option linter.unusedVariables false
set_option linter.unusedSimpArgs false
namespace Go.Proofs.Ab.Area
open Go Go.RowKit Go.Proofs.Ab
def atT (x : Mv) (t d : Int) : Mv := { x with lo := t, hi := t + d }
def goE (areas : List Ar) (lands : List Ld) (x : Mv) (d : Int) : List Int → Int × Int
  | [] => (0, 7)
  | t :: r => if 100000000 < t + d then (0, 7) else if permB areas lands (atT x t d) = true then (t, 0) else goE areas lands x d r
theorem goE_drop {areas : List Ar} {lands : List Ld} {x : Mv} {d : Int} {zs : List Int} {k : Nat} (h : k < zs.length) : goE areas lands x d (zs.drop k) = (if 100000000 < zs[k] + d then (0, 7) else if permB areas lands (atT x zs[k] d) = true then (zs[k], 0) else goE areas lands x d (zs.drop (k + 1))) := by
  rw [List.drop_eq_getElem_cons h]; rfl
noncomputable def c57 : Code := Tryz.f57.body.getD .skip
set_option maxHeartbeats 4000000 in
theorem earl_loop2 {m : Int} (areas : List Ar) (lands : List Ld) (x : Mv) (d : Int) (ys : List Int) (ha : areas.length ≤ 1000) (hl : lands.length ≤ 1000) (hp : ∀ a ∈ areas, a.poly.length ≤ 1000 ∧ ∀ q ∈ a.poly, q.Fit) (hb : x.box.Fit)
    (hy : ys.length ≤ 1000) (hd : 0 ≤ d ∧ d ≤ 10000) (ht : ∀ t ∈ msort ys, 0 ≤ t ∧ t ≤ 100000000) :
    AWp (C m) Tryz.f57.ntmps (pieceAt [1, 1, 1, 1, 1, 1] c57) (endV m [ResultVar.tmp 6, ResultVar.tmp 7] (.tup [I (goE areas lands x d (msort ys)).1, I (goE areas lands x d (msort ys)).2])) ⟨[(0, .p (.seq 4 (areas.map ac))), (1, .p (.seq 4 (lands.map lc))), (5, .box 0 0), (9, .p (I d)), (10, .own 1)], [(0, (95, mc x))], [(1, (3, 1, cellsN ys))], 2, [], [], []⟩ := by
  have hlen : (msort ys).length = ys.length := List.length_mergeSort ..
  refine codeK_sound good (mu := [57]) ?_
  conv => whnf
  repeat' (first
    | fail)
  refine sort_call (k := 1) (ys := ys) (by show some _ = some _; rfl) (by omega) ?_
  generalize msort ys = zs at *
  conv => whnf
  conv => whnf
  repeat' (first
    | fail)
  have hzl : (zs.map fun n => [I n]).length = zs.length := by simp
  refine ⟨AWp.loop (ι := { p : Nat × Int × Int // p.1 ≤ zs.length ∧ goE areas lands x d zs = goE areas lands x d (zs.drop p.1) }) (fun p => ⟨[(60, .p (I p.1.1)), (59, .p (I zs.length)), (58, .p (.seq 1 (cellsN zs))), (0, .p (.seq 4 (areas.map ac))), (1, .p (.seq 4 (lands.map lc))), (5, .box 0 0), (9, .p (I d))], [(0, (95, mc { x with lo := p.1.2.1, hi := p.1.2.2 }))], [], 2, [], [], []⟩) (fun p => zs.length - p.1.1) ⟨(0, x.lo, x.hi), by simp, rfl⟩ ?_ ?_⟩
  · refine SLe.shutB 1 ?_
    conv => whnf
    skip
    · refine SLe.of [(0, 0)] [] rfl rfl ?_
      conv => whnf
      repeat' (first
      | exact True.intro
      | (refine SAnd.mk (PLe.refl _) ?_; conv => whnf)
      | (refine SAnd.mk (PLeL.refl _) ?_; conv => whnf)
      | (refine SAnd.mk (PLe.of_eq (by simp)) ?_; conv => whnf))
  · rintro ⟨⟨k, a, b⟩, hk, he⟩
    refine codeK_sound good (mu := []) ?_
    conv => whnf
    refine SBool.mk (fun hcn => ?_) (fun hcn => ?_)
    · have hkl : k < zs.length := by simpa using hcn
      have hs1 : 0 ≤ (k : Int) ∧ (zs.map fun n => [I n])[((k : Int)).toNat]? = some [I zs[k]] := ⟨by omega, by show (zs.map fun n => [I n])[k]? = _; simp [hkl]⟩
      have mk := sub_lt hkl
      have wk := wsucc (k := k) (by omega)
      have htk := ht _ (List.getElem_mem hkl)
      have hgo := goE_drop (areas := areas) (lands := lands) (x := x) (d := d) hkl
      have hpm := permitted_pure (m := m) areas lands (atT x zs[k] d) ha hl hp hb
      rw [← permB_eq] at hpm
      rw [hgo] at he
      have wd : wrapK IntKind.i64 (zs[k] + d) = zs[k] + d := w64 (by omega)
      clear hgo htk hcn ht
      conv => whnf
      by_cases hbig : 100000000 < zs[k] + d
      · rw [if_pos hbig] at he
        conv => whnf
        repeat' (first
          | (rw [wd]; conv => whnf)
          | (refine SBool.mk (fun h => ?_) (fun h => ?_) <;> conv => whnf)
          | (refine SEx.mk _ (by first | exact hs1) ?_; conv => whnf)
          | fail)
        · rw [he]
          exact ⟨PLe.refl _⟩
        · exact absurd hbig (by assumption)
      · rw [if_neg hbig] at he
        cases hB : permB areas lands (atT x zs[k] d) with
        | false =>
          rw [hB] at hpm he
          conv => whnf
          repeat' (first
            | (rw [wk]; conv => whnf)
            | (rw [wd]; conv => whnf)
            | (refine SBool.mk (fun h => ?_) (fun h => ?_) <;> conv => whnf)
            | (refine SEx.mk _ (by first | exact hs1 | exact hpm) ?_; conv => whnf)
            | fail)
          · exact absurd (by assumption) hbig
          · refine ⟨⟨(k + 1, zs[k], zs[k] + d), hkl, he⟩, mk, ?_⟩
            skip
            · refine SLe.of [(0, 0)] [] rfl rfl ?_
              conv => whnf
              repeat' (first
              | exact True.intro
              | (refine SAnd.mk (PLe.refl _) ?_; conv => whnf)
              | (refine SAnd.mk (PLeL.refl _) ?_; conv => whnf))
        | true =>
          rw [hB] at hpm he
          conv => whnf
          repeat' (first
            | (rw [wd]; conv => whnf)
            | (refine SBool.mk (fun h => ?_) (fun h => ?_) <;> conv => whnf)
            | (refine SEx.mk _ (by first | exact hs1 | exact hpm) ?_; conv => whnf)
            | fail)
          · exact absurd (by assumption) hbig
          · rw [he]
            exact ⟨PLe.refl _⟩
    · have : k = zs.length := by simp at hcn; omega
      subst this
      conv => whnf
      repeat' (first
        | fail)
      rw [he, List.drop_length]
      exact ⟨PLe.refl _⟩
end Go.Proofs.Ab.Area
end
section
/- Earliest: the function. -/
set_option maxRecDepth 100000
set_option linter.unusedVariables false
set_option linter.unusedSimpArgs false
namespace Go.Proofs.Ab.Area
open Go Go.RowKit Go.Proofs.Ab
def earlRow (lands : List Ld) (x : Mv) : List Int := x.lo :: (lands.filter fun l => decide (x.lo < l.hi)).map (·.hi)
def earlUpTo (lands : List Ld) (x : Mv) (k : Nat) : List Int := x.lo :: ((lands.take k).filter fun l => decide (x.lo < l.hi)).map (·.hi)
theorem upTo_succ {lands : List Ld} {x : Mv} {k : Nat} (h : k < lands.length) : earlUpTo lands x (k + 1) = earlUpTo lands x k ++ (if x.lo < lands[k].hi then [lands[k].hi] else []) := by
  unfold earlUpTo
  rw [List.take_succ_eq_append_getElem h, List.filter_append, List.map_append]
  by_cases hc : x.lo < lands[k].hi <;> simp [List.filter, hc]
theorem upTo_len (lands : List Ld) (x : Mv) (k : Nat) : (earlUpTo lands x k).length ≤ lands.length + 1 := by
  unfold earlUpTo
  rw [List.length_cons, List.length_map]
  exact Nat.succ_le_succ (Nat.le_trans (List.length_filter_le _ _) (by rw [List.length_take]; omega))
set_option maxHeartbeats 4000000 in
theorem earl_loop1 {m : Int} (areas : List Ar) (lands : List Ld) (x : Mv) (d : Int) (ha : areas.length ≤ 1000) (hl : lands.length ≤ 900) (hp : ∀ a ∈ areas, a.poly.length ≤ 1000 ∧ ∀ q ∈ a.poly, q.Fit) (hb : x.box.Fit)
    (hd : 0 ≤ d ∧ d ≤ 10000) (ht : ∀ t ∈ msort (earlRow lands x), 0 ≤ t ∧ t ≤ 100000000) :
    AWp (C m) Tryz.f57.ntmps (pieceAt [1, 1, 1, 1, 1] c57) (endV m [ResultVar.tmp 6, ResultVar.tmp 7] (.tup [I (goE areas lands x d (msort (earlRow lands x))).1, I (goE areas lands x d (msort (earlRow lands x))).2])) ⟨[(0, .p (.seq 4 (areas.map ac))), (1, .p (.seq 4 (lands.map lc))), (5, .box 0 0), (9, .p (I d)), (10, .own 1)], [(0, (95, mc x))], [(1, (3, 1, [[I x.lo]]))], 2, [], [], []⟩ := by
  have go2 := earl_loop2 (m := m) areas lands x d (earlRow lands x) ha (Nat.le_trans hl (by decide)) hp hb (by have := upTo_len lands x lands.length; unfold earlUpTo at this; rw [List.take_length] at this; unfold earlRow; omega) hd ht
  refine codeN_sound good (mu := []) (n := 1) ?_
  conv => whnf
  refine ⟨AWp.loop (ι := { k : Nat // k ≤ lands.length }) (fun k => ⟨[(38, .p (I k.1)), (37, .p (I lands.length)), (36, .p (.seq 4 (lands.map lc))), (0, .p (.seq 4 (areas.map ac))), (1, .p (.seq 4 (lands.map lc))), (5, .box 0 0), (9, .p (I d)), (10, .own 1)], [(0, (95, mc x))], [(1, (3, 1, cellsN (earlUpTo lands x k.1)))], 2, [], [], []⟩) (fun k => lands.length - k.1) ⟨0, by simp⟩ ?_ ?_⟩
  · skip
    · refine SLe.of [(0, 0)] [(1, 1)] rfl rfl ?_
      conv => whnf
      repeat' (first
      | exact True.intro
      | (refine SAnd.mk (PLe.refl _) ?_; conv => whnf)
      | (refine SAnd.mk (PLeL.refl _) ?_; conv => whnf)
      | (refine SAnd.mk (PLe.of_eq (by simp)) ?_; conv => whnf)
      | (refine SAnd.mk rfl ?_; conv => whnf))
  · rintro ⟨k, hk⟩
    refine codeK_sound good (mu := []) ?_
    conv => whnf
    refine SBool.mk (fun hcn => ?_) (fun hcn => ?_)
    · have hkl : k < lands.length := by simpa using hcn
      have hs1 := some_at hkl lc
      have mk := sub_lt hkl
      have wk := wsucc (k := k) (by omega)
      have hup := upTo_succ (x := x) hkl
      have hul := upTo_len lands x k
      clear go2 ht hcn
      generalize earlUpTo lands x k = ys at *
      generalize hzz : earlUpTo lands x (k + 1) = zs at *
      conv => whnf
      by_cases hc : x.lo < lands[k].hi
      · rw [if_pos hc] at hup
        conv => whnf
        repeat' (first
          | (rw [wk]; conv => whnf)
          | (refine SBool.mk (fun h => ?_) (fun h => ?_) <;> conv => whnf)
          | (refine SEx.mk _ (by first | exact hs1) ?_; conv => whnf)
          | (refine SAnd.mk ⟨by intro c hc; simp at hc; first | (subst hc; rfl) | ((repeat' (rcases hc with rfl | hc)) <;> first | rfl | (subst hc; rfl)), by (simp; first | done | omega), by (simp; first | done | omega)⟩ ?_; conv => whnf)
          | fail)
        · refine ⟨⟨k + 1, hkl⟩, mk, ?_⟩
          rw [hzz]
          skip
          · refine SLe.of [(0, 0)] [(1, 3)] rfl rfl ?_
            conv => whnf
            repeat' (first
            | exact True.intro
            | (refine SAnd.mk (show _ = (_ : List (List PV)) from by rw [hup]; simp) ?_; conv => whnf)
            | (refine SAnd.mk (PLe.refl _) ?_; conv => whnf)
            | (refine SAnd.mk (PLeL.refl _) ?_; conv => whnf))
        · exact absurd hc (by assumption)
      · rw [if_neg hc] at hup
        conv => whnf
        repeat' (first
          | (rw [wk]; conv => whnf)
          | (refine SBool.mk (fun h => ?_) (fun h => ?_) <;> conv => whnf)
          | (refine SEx.mk _ (by first | exact hs1) ?_; conv => whnf)
          | (refine SAnd.mk ⟨by intro c hc; simp at hc; first | (subst hc; rfl) | ((repeat' (rcases hc with rfl | hc)) <;> first | rfl | (subst hc; rfl)), by (simp; first | done | omega), by (simp; first | done | omega)⟩ ?_; conv => whnf)
          | fail)
        · exact absurd (by assumption) hc
        · refine ⟨⟨k + 1, hkl⟩, mk, ?_⟩
          rw [hzz]
          skip
          · refine SLe.of [(0, 0)] [(1, 1)] rfl rfl ?_
            conv => whnf
            repeat' (first
            | exact True.intro
            | (refine SAnd.mk (show _ = (_ : List (List PV)) from by rw [hup]; simp) ?_; conv => whnf)
            | (refine SAnd.mk (PLe.refl _) ?_; conv => whnf)
            | (refine SAnd.mk (PLeL.refl _) ?_; conv => whnf))
    · conv => whnf
      have : k = lands.length := by simp at hcn; omega
      subst this
      have hup : earlUpTo lands x lands.length = earlRow lands x := by unfold earlUpTo earlRow; rw [List.take_length]
      refine ⟨AWp.le ?_ go2⟩
      rw [hup]
      skip
      · refine SLe.of [(0, 0)] [(1, 1)] rfl rfl ?_
        conv => whnf
        repeat' (first
        | exact True.intro
        | (refine SAnd.mk (PLe.refl _) ?_; conv => whnf)
        | (refine SAnd.mk (PLeL.refl _) ?_; conv => whnf)
        | (refine SAnd.mk rfl ?_; conv => whnf))
end Go.Proofs.Ab.Area
end
section
/- Earliest: the whole. -/
set_option maxRecDepth 100000
set_option linter.unusedVariables false
set_option linter.unusedSimpArgs false
namespace Go.Proofs.Ab.Area
open Go Go.RowKit Go.Proofs.Ab
def earlR (l : List Ar) (x : List Ld) (y : Mv) : Int × Int :=
  if sceneE l x [y] = 0 then (if 10000 < y.hi - y.lo then (0, 3) else goE l x y (y.hi - y.lo) (msort (earlRow x y))) else (0, sceneE l x [y])
theorem ticks_ok {a b : Int} (h : ticksE a b = 0) : 0 ≤ a ∧ a < b ∧ b ≤ 100000000 := by
  unfold ticksE at h
  split at h
  · cases h
  · omega
theorem land_ticks {l : Ld} (h : landE l = 0) : 0 ≤ l.lo ∧ l.lo < l.hi ∧ l.hi ≤ 100000000 := by
  unfold landE at h
  rw [firstOf_zero, firstOf_zero] at h
  exact ticks_ok h.2.1
theorem move_ticks {x : Mv} (h : moveE x = 0) : 0 ≤ x.lo ∧ x.lo < x.hi ∧ x.hi ≤ 100000000 := by
  unfold moveE at h
  rw [firstOf_zero, firstOf_zero, firstOf_zero] at h
  exact ticks_ok h.2.2.1
theorem earl_ticks {l : List Ar} {x : List Ld} {y : Mv} (h : sceneE l x [y] = 0) : (0 ≤ y.lo ∧ y.lo < y.hi ∧ y.hi ≤ 100000000) ∧ ∀ t ∈ msort (earlRow x y), 0 ≤ t ∧ t ≤ 100000000 := by
  have h' := h
  unfold sceneE at h'
  rw [firstOf_zero, firstOf_zero, firstOf_zero] at h'
  have h2 := lands_ok h'.2.1
  have h3 := moves_ok h'.2.2.1
  have hy := move_ticks (h3.2 y (by simp))
  refine ⟨hy, fun t ht => ?_⟩
  unfold msort at ht
  rw [List.mem_mergeSort] at ht
  unfold earlRow at ht
  rcases List.mem_cons.1 ht with rfl | ht
  · omega
  · obtain ⟨a, ha, rfl⟩ := List.mem_map.1 ht
    have := land_ticks (h2.2 a (List.mem_filter.1 ha).1)
    omega
set_option maxHeartbeats 4000000 in
theorem Earliest_pure {m : Int} (l : List Ar) (x : List Ld) (y : Mv) (hl : l.length ≤ 1000000) (hp : l.length ≤ 16 → ∀ a ∈ l, a.poly.length ≤ 1000) (hx : x.length ≤ 1000000) :
    APure (C m) 57 [.seq 4 (l.map ac), .seq 4 (x.map lc), .agg (mc y)] (.tup [I (earlR l x y).1, I (earlR l x y).2]) := by
  have hsc := checkScene_pure (m := m) l x [y] hl hp hx (by simp)
  by_cases hE : sceneE l x [y] = 0
  · have ok := scene_ok hE
    have hti := earl_ticks hE
    have wd : wrapK IntKind.i64 (y.hi - y.lo) = y.hi - y.lo := w64 (by omega)
    rw [hE] at hsc
    by_cases hbig : 10000 < y.hi - y.lo
    · unfold earlR
      rw [if_pos hE, if_pos hbig]
      refine APure.of_body good [] (fn := Tryz.f57) (by kernel_rfl) (by kernel_rfl) rfl rfl (by kernel_rfl) rfl (by kernel_rfl) ?_
      conv => whnf
      repeat' (first
        | (refine codeK_sound good (mu := []) ?_; conv => whnf)
        | ((first | rw [wl0] | rw [wl1] | rw [wl2] | rw [wl3] | rw [wl4] | rw [wl5]); conv => whnf)
        | (rw [wd]; conv => whnf)
        | (refine SBool.mk (fun _ => ?_) (fun h => absurd (of_decide_eq_true rfl) h); conv => whnf)
        | (refine SBool.mk (fun h => absurd h (of_decide_eq_false rfl)) (fun _ => ?_); conv => whnf)
        | (refine SBool.mk (fun h => ?_) (fun h => ?_) <;> conv => whnf)
        | (refine SEx.mk _ (by first | exact hsc) ?_; conv => whnf)
        | (refine SEx.mk _ (by first | exact rfl | exact ⟨of_decide_eq_true rfl, rfl⟩) ?_; conv => whnf)
        | (refine SAll.mk (fun _ => ?_); conv => whnf)
        | (refine SAnd.mk (by first | exact hsc) ?_; conv => whnf)
        | (refine SAnd.mk ⟨by intro c hc; simp at hc; first | (subst hc; rfl) | ((repeat' (rcases hc with rfl | hc)) <;> first | rfl | (subst hc; rfl)), by (simp; first | done | omega), by (simp; first | done | omega)⟩ ?_; conv => whnf)
        | (refine SAnd.mk (by first | exact rfl | kernel_rfl | omega | decide | exact hsc) ?_; conv => whnf)
        | fail)
      all_goals first
        | exact ⟨PLe.refl _⟩
        | exact absurd rfl (by assumption)
        | exact absurd hbig (by assumption)
    · have go := earl_loop1 (m := m) l x y (y.hi - y.lo) (Nat.le_trans ok.al (by decide)) (Nat.le_trans ok.ll (by decide)) ok.ap (ok.mb y (by simp)) (by omega) hti.2
      unfold earlR
      rw [if_pos hE, if_neg hbig]
      clear hti ok
      refine APure.of_wp good (fn := Tryz.f57) (by kernel_rfl) (by kernel_rfl) rfl rfl (by kernel_rfl) rfl (by kernel_rfl) ?_
      refine codeN_sound good (mu := [5, 1035]) (n := 5) ?_
      conv => whnf
      repeat' (first
        | (refine codeK_sound good (mu := []) ?_; conv => whnf)
        | ((first | rw [wl0] | rw [wl1] | rw [wl2] | rw [wl3] | rw [wl4] | rw [wl5]); conv => whnf)
        | (rw [wd]; conv => whnf)
        | (refine SBool.mk (fun _ => ?_) (fun h => absurd (of_decide_eq_true rfl) h); conv => whnf)
        | (refine SBool.mk (fun h => absurd h (of_decide_eq_false rfl)) (fun _ => ?_); conv => whnf)
        | (refine SBool.mk (fun h => ?_) (fun h => ?_) <;> conv => whnf)
        | (refine SEx.mk _ (by first | exact hsc) ?_; conv => whnf)
        | (refine SEx.mk _ (by first | exact rfl | exact ⟨of_decide_eq_true rfl, rfl⟩) ?_; conv => whnf)
        | (refine SAll.mk (fun _ => ?_); conv => whnf)
        | (refine SAnd.mk (by first | exact hsc) ?_; conv => whnf)
        | (refine SAnd.mk ⟨by intro c hc; simp at hc; first | (subst hc; rfl) | ((repeat' (rcases hc with rfl | hc)) <;> first | rfl | (subst hc; rfl)), by (simp; first | done | omega), by (simp; first | done | omega)⟩ ?_; conv => whnf)
        | (refine SAnd.mk (by first | exact rfl | kernel_rfl | omega | decide | exact hsc) ?_; conv => whnf)
        | fail)
      all_goals first
        | exact absurd rfl (by assumption)
        | exact absurd (by assumption) hbig
        | skip
      refine ⟨AWp.le ?_ go⟩
      skip
      · refine SLe.of [(0, 0)] [(1, 1)] rfl rfl ?_
        conv => whnf
        repeat' (first
        | exact True.intro
        | (refine SAnd.mk (PLe.of_eq (by simp only [wrapK]; rw [wrap_id (by first | omega | (simp only; done) | (simp only; omega) | simp) (by first | omega | (simp only; done) | (simp only; omega) | simp)]; simp)) ?_; conv => whnf)
        | (refine SAnd.mk (PLe.refl _) ?_; conv => whnf)
        | (refine SAnd.mk (PLeL.refl _) ?_; conv => whnf)
        | (refine SAnd.mk (PLe.of_eq (by simp)) ?_; conv => whnf)
        | (refine SAnd.mk rfl ?_; conv => whnf)
        | (refine SAnd.mk ⟨rfl, rfl⟩ ?_; conv => whnf)
        | (refine SAnd.mk ⟨rfl, rfl, rfl⟩ ?_; conv => whnf))
  · unfold earlR
    rw [if_neg hE]
    refine APure.of_body good [] (fn := Tryz.f57) (by kernel_rfl) (by kernel_rfl) rfl rfl (by kernel_rfl) rfl (by kernel_rfl) ?_
    conv => whnf
    repeat' (first
      | (refine codeK_sound good (mu := []) ?_; conv => whnf)
      | ((first | rw [wl0] | rw [wl1] | rw [wl2] | rw [wl3] | rw [wl4] | rw [wl5]); conv => whnf)
      | (refine SBool.mk (fun _ => ?_) (fun h => absurd (of_decide_eq_true rfl) h); conv => whnf)
      | (refine SBool.mk (fun h => absurd h (of_decide_eq_false rfl)) (fun _ => ?_); conv => whnf)
      | (refine SBool.mk (fun h => ?_) (fun h => ?_) <;> conv => whnf)
      | (refine SEx.mk _ (by first | exact hsc) ?_; conv => whnf)
      | (refine SEx.mk _ (by first | exact rfl | exact ⟨of_decide_eq_true rfl, rfl⟩) ?_; conv => whnf)
      | (refine SAll.mk (fun _ => ?_); conv => whnf)
      | (refine SAnd.mk (by first | exact hsc) ?_; conv => whnf)
      | (refine SAnd.mk ⟨by intro c hc; simp at hc; first | (subst hc; rfl) | ((repeat' (rcases hc with rfl | hc)) <;> first | rfl | (subst hc; rfl)), by (simp; first | done | omega), by (simp; first | done | omega)⟩ ?_; conv => whnf)
      | (refine SAnd.mk (by first | exact rfl | kernel_rfl | omega | decide | exact hsc) ?_; conv => whnf)
      | fail)
    all_goals first
      | exact ⟨PLe.refl _⟩
      | exact absurd (by assumption) hE
end Go.Proofs.Ab.Area
end
section
/- Earliest: the reference's search comes to the program's answer. -/
set_option linter.unusedVariables false
set_option linter.unusedSimpArgs false
namespace Go.Proofs.Ab.Area
open Go Go.Proofs.Ab
def pickE (f : Int → Bool) (best t : Int) : Int := if (best < 0 ∨ t < best) ∧ f t = true then t else best
theorem pick_fold (f : Int → Bool) : ∀ (cs : List Int) (b : Int), (∀ c ∈ cs, 0 ≤ c) → (b = -1 ∨ 0 ≤ b ∧ f b = true) →
    (cs.foldl (pickE f) b = -1 ∨ 0 ≤ cs.foldl (pickE f) b ∧ f (cs.foldl (pickE f) b) = true) ∧ (cs.foldl (pickE f) b = b ∨ cs.foldl (pickE f) b ∈ cs) ∧ (∀ c ∈ cs, f c = true → 0 ≤ cs.foldl (pickE f) b ∧ cs.foldl (pickE f) b ≤ c) ∧ (0 ≤ b → 0 ≤ cs.foldl (pickE f) b ∧ cs.foldl (pickE f) b ≤ b)
  | [], b, _, hb => ⟨hb, .inl rfl, fun c hc => by simp at hc, fun h => ⟨h, Int.le_refl _⟩⟩
  | c :: cs, b, h0, hb => by
    have hc0 := h0 c List.mem_cons_self
    rw [List.foldl_cons]
    by_cases hp : (b < 0 ∨ c < b) ∧ f c = true
    · have e : pickE f b c = c := by unfold pickE; rw [if_pos hp]
      rw [e]
      obtain ⟨h1, h2, h3, h4⟩ := pick_fold f cs c (fun x hx => h0 x (List.mem_cons_of_mem _ hx)) (.inr ⟨hc0, hp.2⟩)
      refine ⟨h1, ?_, fun x hx hf => ?_, fun hb0 => ?_⟩
      · rcases h2 with h2 | h2
        · exact .inr (by rw [h2]; exact List.mem_cons_self)
        · exact .inr (List.mem_cons_of_mem _ h2)
      · rcases List.mem_cons.1 hx with rfl | hx
        · exact h4 hc0
        · exact h3 x hx hf
      · have := h4 hc0
        omega
    · have e : pickE f b c = b := by unfold pickE; rw [if_neg hp]
      rw [e]
      obtain ⟨h1, h2, h3, h4⟩ := pick_fold f cs b (fun x hx => h0 x (List.mem_cons_of_mem _ hx)) hb
      refine ⟨h1, ?_, fun x hx hf => ?_, h4⟩
      · rcases h2 with h2 | h2
        · exact .inl h2
        · exact .inr (List.mem_cons_of_mem _ h2)
      · rcases List.mem_cons.1 hx with rfl | hx
        · have : ¬ (b < 0 ∨ x < b) := fun h => hp ⟨h, hf⟩
          have := h4 (by omega)
          omega
        · exact h3 x hx hf
theorem goE_spec (areas : List Ar) (lands : List Ld) (x : Mv) (d b : Int) : ∀ zs : List Int, zs.Pairwise (· ≤ ·) → b ∈ zs → permB areas lands (atT x b d) = true → (∀ z ∈ zs, permB areas lands (atT x z d) = true → b ≤ z) →
    goE areas lands x d zs = if 100000000 < b + d then (0, 7) else (b, 0)
  | [], _, hb, _, _ => by simp at hb
  | t :: r, hs, hb, hf, hm => by
    rw [List.pairwise_cons] at hs
    have htb : t ≤ b := by
      rcases List.mem_cons.1 hb with rfl | hb
      · exact Int.le_refl _
      · exact hs.1 b hb
    unfold goE
    by_cases h1 : 100000000 < t + d
    · rw [if_pos h1, if_pos (by omega)]
    · rw [if_neg h1]
      by_cases h2 : permB areas lands (atT x t d) = true
      · have := hm t List.mem_cons_self h2
        have e : t = b := by omega
        subst e
        rw [if_pos h2, if_neg h1]
      · rw [if_neg h2]
        refine goE_spec areas lands x d b r hs.2 ?_ hf (fun z hz => hm z (List.mem_cons_of_mem _ hz))
        rcases List.mem_cons.1 hb with rfl | hb
        · exact absurd hf h2
        · exact hb
def candE (lands : List Ld) (x : Mv) : List Int := x.lo :: lands.map fun l => max x.lo l.hi
def bestE (areas : List Ar) (lands : List Ld) (x : Mv) (d : Int) : Int := (candE lands x).foldl (pickE fun t => permB areas lands (atT x t d)) (-1)
/-- What the reference comes to. -/
def earlS (areas : List Ar) (lands : List Ld) (x : Mv) : Int × Int :=
  if 10000 < x.hi - x.lo then (0, 3) else if 100000000 < bestE areas lands x (x.hi - x.lo) + (x.hi - x.lo) then (0, 7) else (bestE areas lands x (x.hi - x.lo), 0)
theorem cand_iff (lands : List Ld) (x : Mv) (t : Int) : t ∈ candE lands x ↔ t ∈ earlRow lands x := by
  unfold candE earlRow
  rw [List.mem_cons, List.mem_cons, List.mem_map, List.mem_map]
  constructor
  · rintro (h | ⟨l, hl, rfl⟩)
    · exact .inl h
    · by_cases hc : x.lo < l.hi
      · exact .inr ⟨l, List.mem_filter.2 ⟨hl, decide_eq_true hc⟩, by omega⟩
      · exact .inl (by omega)
  · rintro (h | ⟨l, hl, rfl⟩)
    · exact .inl h
    · obtain ⟨h1, h2⟩ := List.mem_filter.1 hl
      have := of_decide_eq_true h2
      exact .inr ⟨l, h1, by omega⟩
theorem max_mem : ∀ (l : List Int) (a : Int), ∃ m ∈ a :: l, ∀ c ∈ a :: l, c ≤ m
  | [], a => ⟨a, List.mem_cons_self, fun c hc => by simp at hc; omega⟩
  | b :: l, a => by
    obtain ⟨m, hm, hh⟩ := max_mem l b
    by_cases h : a ≤ m
    · exact ⟨m, List.mem_cons_of_mem _ hm, fun c hc => by
        rcases List.mem_cons.1 hc with rfl | hc
        · exact h
        · exact hh c hc⟩
    · exact ⟨a, List.mem_cons_self, fun c hc => by
        rcases List.mem_cons.1 hc with rfl | hc
        · exact Int.le_refl _
        · have := hh c hc; omega⟩
/-- A landing that is over is in no conflict. -/
theorem perm_over (areas : List Ar) (lands : List Ld) (x : Mv) (h : ∀ l ∈ lands, l.hi ≤ x.lo) : permB areas lands x = true := by
  rw [permB_eq, Bool.not_eq_true', List.any_eq_false]
  intro i hi
  have hil := List.mem_range.1 hi
  have hh := h _ (List.getElem_mem hil)
  rw [Bool.not_eq_true]
  unfold gL
  rw [List.any_eq_false]
  intro k hk
  have hk0 : k = 0 := by have := List.mem_range.1 hk; simp at this; omega
  subst hk0
  rw [Bool.not_eq_true]
  unfold gM
  rw [List.any_eq_false]
  intro j _
  rw [Bool.not_eq_true]
  unfold gA
  rw [getD_lt hil]
  show (commonB lands[i].lo lands[i].hi x.lo x.hi && appliesB _ x.size lands[i].cat && meetsB _ x.box) = false
  have : commonB lands[i].lo lands[i].hi x.lo x.hi = false := by
    unfold commonB
    rw [Bool.and_eq_false_iff]
    exact .inr (decide_eq_false (by omega))
  rw [this]
  rfl
theorem best_spec {areas : List Ar} {lands : List Ld} {x : Mv} (d : Int) (hx : 0 ≤ x.lo) (hl : ∀ l ∈ lands, 0 ≤ l.hi) :
    bestE areas lands x d ∈ candE lands x ∧ permB areas lands (atT x (bestE areas lands x d) d) = true ∧ ∀ c ∈ candE lands x, permB areas lands (atT x c d) = true → bestE areas lands x d ≤ c := by
  have h0 : ∀ c ∈ candE lands x, 0 ≤ c := fun c hc => by
    rcases List.mem_cons.1 hc with rfl | hc
    · exact hx
    · obtain ⟨l, hl', rfl⟩ := List.mem_map.1 hc
      have := hl l hl'
      omega
  obtain ⟨h1, h2, h3, _⟩ := pick_fold (fun t => permB areas lands (atT x t d)) (candE lands x) (-1) h0 (.inl rfl)
  obtain ⟨m, hm, hh⟩ := max_mem (lands.map fun l => max x.lo l.hi) x.lo
  have hmp : permB areas lands (atT x m d) = true := perm_over _ _ _ (fun l hl' => by
    have := hh (max x.lo l.hi) (List.mem_cons_of_mem _ (List.mem_map_of_mem hl'))
    show l.hi ≤ m
    omega)
  have hge := (h3 m hm hmp).1
  refine ⟨?_, ?_, fun c hc hf => (h3 c hc hf).2⟩
  · rcases h2 with h2 | h2
    · unfold bestE at *
      omega
    · exact h2
  · rcases h1 with h1 | h1
    · omega
    · exact h1.2
theorem earl_same {l : List Ar} {x : List Ld} {y : Mv} (h : sceneE l x [y] = 0) : earlR l x y = earlS l x y := by
  obtain ⟨hy, ht⟩ := earl_ticks h
  have h' := h
  unfold sceneE at h'
  rw [firstOf_zero, firstOf_zero, firstOf_zero] at h'
  have h2 := lands_ok h'.2.1
  obtain ⟨b1, b2, b3⟩ := best_spec (areas := l) (lands := x) (x := y) (y.hi - y.lo) (by omega) (fun a ha => by have := land_ticks (h2.2 a ha); omega)
  unfold earlR earlS
  rw [if_pos h]
  split
  · rfl
  · refine goE_spec l x y (y.hi - y.lo) _ _ ?_ ?_ b2 ?_
    · have := List.pairwise_mergeSort (le := fun a b : Int => decide (a ≤ b)) (fun a b c h1 h2 => by simp at *; omega) (fun a b => by simp; omega) (earlRow x y)
      exact this.imp fun h => of_decide_eq_true h
    · unfold msort
      rw [List.mem_mergeSort]
      exact (cand_iff x y _).1 b1
    · intro z hz
      unfold msort at hz
      rw [List.mem_mergeSort] at hz
      exact b3 z ((cand_iff x y z).2 hz)
/-- No tick from the given one on is permitted ahead of the earliest one. -/
theorem earl_before {areas : List Ar} {lands : List Ld} {x : Mv} {d t : Int} (hx : 0 ≤ x.lo) (hl : ∀ l ∈ lands, 0 ≤ l.hi) (h1 : x.lo ≤ t) (h2 : t < bestE areas lands x d) : permB areas lands (atT x t d) = false := by
  obtain ⟨b1, b2, b3⟩ := best_spec (areas := areas) (lands := lands) (x := x) d hx hl
  -- the greatest candidate up to t
  have key : ∃ c ∈ candE lands x, c ≤ t ∧ ∀ l ∈ lands, l.hi ≤ t → l.hi ≤ c := by
    obtain ⟨m, hm, hh⟩ := max_mem ((lands.filter fun l => decide (l.hi ≤ t)).map fun l => max x.lo l.hi) x.lo
    refine ⟨m, ?_, ?_, fun l hl' hlt => ?_⟩
    · rcases List.mem_cons.1 hm with rfl | hm
      · exact List.mem_cons_self
      · obtain ⟨l, hl', rfl⟩ := List.mem_map.1 hm
        exact List.mem_cons_of_mem _ (List.mem_map_of_mem (f := fun l : Ld => max x.lo l.hi) (List.mem_filter.1 hl').1)
    · rcases List.mem_cons.1 hm with rfl | hm
      · exact h1
      · obtain ⟨l, hl', rfl⟩ := List.mem_map.1 hm
        have := of_decide_eq_true (List.mem_filter.1 hl').2
        omega
    · have := hh (max x.lo l.hi) (List.mem_cons_of_mem _ (List.mem_map_of_mem (f := fun l : Ld => max x.lo l.hi) (List.mem_filter.2 ⟨hl', decide_eq_true hlt⟩)))
      omega
  obtain ⟨c, hc, hct, hcl⟩ := key
  cases hp : permB areas lands (atT x t d) with
  | false => rfl
  | true =>
    have : permB areas lands (atT x c d) = true := by
      rw [permB_eq, Bool.not_eq_true'] at hp ⊢
      rw [List.any_eq_false] at hp ⊢
      intro i hi
      have hil := List.mem_range.1 hi
      have hq := hp i hi
      rw [Bool.not_eq_true] at hq ⊢
      unfold gL at hq ⊢
      rw [List.any_eq_false] at hq ⊢
      intro k hk
      have hk0 : k = 0 := by have := List.mem_range.1 hk; simp at this; omega
      subst hk0
      have hq := hq 0 hk
      rw [Bool.not_eq_true] at hq ⊢
      unfold gM at hq ⊢
      rw [List.any_eq_false] at hq ⊢
      intro j hj
      have hq := hq j hj
      rw [Bool.not_eq_true] at hq ⊢
      unfold gA at hq ⊢
      rw [getD_lt hil] at hq ⊢
      have hq : (commonB lands[i].lo lands[i].hi t (t + d) && appliesB (areas.getD j default) x.size lands[i].cat && meetsB (areas.getD j default).poly x.box) = false := hq
      show (commonB lands[i].lo lands[i].hi c (c + d) && appliesB (areas.getD j default) x.size lands[i].cat && meetsB (areas.getD j default).poly x.box) = false
      cases hcm : commonB lands[i].lo lands[i].hi c (c + d) with
      | false => rfl
      | true =>
        unfold commonB at hcm
        rw [Bool.and_eq_true] at hcm
        have e1 := of_decide_eq_true hcm.1
        have e2 := of_decide_eq_true hcm.2
        have hn : ¬ lands[i].hi ≤ t := fun h => by have := hcl _ (List.getElem_mem hil) h; omega
        have : commonB lands[i].lo lands[i].hi t (t + d) = true := by
          unfold commonB
          rw [decide_eq_true (by omega : lands[i].lo < t + d), decide_eq_true (by omega : t < lands[i].hi)]
          rfl
        rw [this] at hq
        exact hq
    have := b3 c hc this
    omega
end Go.Proofs.Ab.Area
end
section
/- The program's answers at the document's examples. -/
set_option maxRecDepth 100000
set_option linter.unusedVariables false
set_option linter.unusedSimpArgs false
namespace Go.Proofs.Ab.Area
open Go Go.RowKit Go.Proofs.Ab
theorem ofEq {m : Int} {f : FuncId} {xs : List PV} {v w : PV} (h : APure (C m) f xs v) (e : v = w) : APure (C m) f xs w := e ▸ h
theorem spot_pure {m : Int} (x y : Int) : APure (C m) 84 [I x, I y] (.agg [I x, I y]) := by
  refine APure.of_body good [] (fn := Tryz.f84) (by kernel_rfl) (by kernel_rfl) rfl rfl (by kernel_rfl) rfl (by kernel_rfl) ?_
  conv => whnf
  repeat' (first
    | fail)
  exact ⟨PLe.refl _⟩
theorem span_pure {m : Int} (x y : Int) : APure (C m) 86 [I x, I y] (.agg [I x, I y]) := by
  refine APure.of_body good [] (fn := Tryz.f86) (by kernel_rfl) (by kernel_rfl) rfl rfl (by kernel_rfl) rfl (by kernel_rfl) ?_
  conv => whnf
  repeat' (first
    | fail)
  exact ⟨PLe.refl _⟩
abbrev pT : List (List PV) := [[I 0, I 0], [I 6, I 0], [I 0, I 6]]
abbrev pQ : List (List PV) := [[I 0, I 0], [I 10, I 0], [I 10, I 10], [I 0, I 10]]
abbrev bCrit : ByteArray := ⟨#[99, 114, 105, 116]⟩
abbrev bSens : ByteArray := ⟨#[115, 101, 110, 115]⟩
abbrev cA1 : List PV := [St bCrit, I 1, I 1, .seq 2 pT]
abbrev cA2 : List PV := [St bSens, I 2, I 2, .seq 2 pQ]
abbrev vAreas : PV := .seq 4 [cA1, cA2]
abbrev vLands : PV := .seq 4 [[St ⟨#[108, 49]⟩, I 1, I 10, I 20], [St ⟨#[108, 50]⟩, I 2, I 30, I 40]]
abbrev cMove : List PV := [St ⟨#[109]⟩, I 2, I 7, I 7, I 8, I 8, I 15, I 35]
abbrev vFlights : PV := .seq 3 [[St ⟨#[97]⟩, I 0, I 0], [St ⟨#[98]⟩, I 1, I 1], [St ⟨#[99]⟩, I 0, I 2]]
abbrev vTable : PV := .agg [I 3, I 5, I 4, I 2, I 3, I 4, I 4, I 4, I 4]
theorem triangle_pure {m : Int} : APure (C m) 87 [] (.seq 2 pT) := by
  refine APure.of_body good [] (fn := Tryz.f87) (by kernel_rfl) (by kernel_rfl) rfl rfl (by kernel_rfl) rfl (by kernel_rfl) ?_
  conv => whnf
  repeat' (first
    | (refine SEx.mk _ (by first | exact spot_pure _ _) ?_; conv => whnf)
    | fail)
  exact ⟨PLe.refl _⟩
theorem areas_pure {m : Int} : APure (C m) 88 [] vAreas := by
  refine APure.of_body good [] (fn := Tryz.f88) (by kernel_rfl) (by kernel_rfl) rfl rfl (by kernel_rfl) rfl (by kernel_rfl) ?_
  conv => whnf
  repeat' (first
    | (refine SEx.mk _ (by first | exact spot_pure _ _ | exact triangle_pure) ?_; conv => whnf)
    | fail)
  exact ⟨PLe.refl _⟩
theorem landings_pure {m : Int} : APure (C m) 89 [] vLands := by
  refine APure.of_body good [] (fn := Tryz.f89) (by kernel_rfl) (by kernel_rfl) rfl rfl (by kernel_rfl) rfl (by kernel_rfl) ?_
  conv => whnf
  repeat' (first
    | (refine SEx.mk _ (by first | exact span_pure _ _) ?_; conv => whnf)
    | fail)
  exact ⟨PLe.refl _⟩
theorem move_pure {m : Int} : APure (C m) 90 [] (.agg cMove) := by
  refine APure.of_body good [] (fn := Tryz.f90) (by kernel_rfl) (by kernel_rfl) rfl rfl (by kernel_rfl) rfl (by kernel_rfl) ?_
  conv => whnf
  repeat' (first
    | (refine SEx.mk _ (by first | exact spot_pure _ _ | exact span_pure _ _) ?_; conv => whnf)
    | fail)
  exact ⟨PLe.refl _⟩
theorem flights_pure {m : Int} : APure (C m) 91 [] vFlights := by
  refine APure.of_body good [] (fn := Tryz.f91) (by kernel_rfl) (by kernel_rfl) rfl rfl (by kernel_rfl) rfl (by kernel_rfl) ?_
  conv => whnf
  repeat' (first
    | fail)
  exact ⟨PLe.refl _⟩
theorem table_pure {m : Int} : APure (C m) 92 [] vTable := by
  refine APure.of_body good [] (fn := Tryz.f92) (by kernel_rfl) (by kernel_rfl) rfl rfl (by kernel_rfl) rfl (by kernel_rfl) ?_
  conv => whnf
  repeat' (first
    | fail)
  exact ⟨PLe.refl _⟩
def triL : List Pt := [⟨0, 0⟩, ⟨6, 0⟩, ⟨0, 6⟩]
def arA : Ar := ⟨bCrit, 1, 1, triL⟩
def arsL : List Ar := [arA, ⟨bSens, 2, 2, [⟨0, 0⟩, ⟨10, 0⟩, ⟨10, 10⟩, ⟨0, 10⟩]⟩]
def ldsL : List Ld := [⟨⟨#[108, 49]⟩, 1, 10, 20⟩, ⟨⟨#[108, 50]⟩, 2, 30, 40⟩]
def mvM : Mv := ⟨⟨#[109]⟩, 2, ⟨⟨7, 7⟩, ⟨8, 8⟩⟩, 15, 35⟩
def flsL : List Fg := [⟨⟨#[97]⟩, 0, 0⟩, ⟨⟨#[98]⟩, 1, 1⟩, ⟨⟨#[99]⟩, 0, 2⟩]
def tabT : Tb := fun a b => if a = 0 then (if b = 0 then 3 else if b = 1 then 5 else 4) else if a = 1 then (if b = 0 then 2 else if b = 1 then 3 else 4) else 4
theorem polysL : arsL.length ≤ 16 → ∀ a ∈ arsL, a.poly.length ≤ 1000 := fun _ a ha => by
  simp only [arsL, arA, List.mem_cons, List.not_mem_nil, or_false] at ha
  rcases ha with rfl | rfl <;> decide
theorem kIn1 {m : Int} : APure (C m) 14 [.seq 2 pT, .agg [I 3, I 3]] (.tup [Bo true, I 0]) := ofEq (In_pure triL ⟨3, 3⟩ (by decide)) (by kernel_rfl)
theorem kIn2 {m : Int} : APure (C m) 14 [.seq 2 pT, .agg [I 4, I 3]] (.tup [Bo false, I 0]) := ofEq (In_pure triL ⟨4, 3⟩ (by decide)) (by kernel_rfl)
theorem kSize {m : Int} : APure (C m) 16 [.seq 2 pT] (.tup [I 36, I 0]) := ofEq (Size_pure triL (by decide)) (by kernel_rfl)
theorem kMeets1 {m : Int} : APure (C m) 17 [.seq 2 pT, .agg [I 4, I 3, I 9, I 9]] (.tup [Bo false, I 0]) := ofEq (Meets_pure triL ⟨⟨4, 3⟩, ⟨9, 9⟩⟩ (by decide)) (by kernel_rfl)
theorem kMeets2 {m : Int} : APure (C m) 17 [.seq 2 pT, .agg [I 3, I 3, I 9, I 9]] (.tup [Bo true, I 0]) := ofEq (Meets_pure triL ⟨⟨3, 3⟩, ⟨9, 9⟩⟩ (by decide)) (by kernel_rfl)
theorem kApply1 {m : Int} : APure (C m) 28 [vAreas, I 1, I 2] (.tup [.seq 1 [[St bCrit]], I 0]) := ofEq (Applying_pure arsL 1 2 (by decide) polysL) (by kernel_rfl)
theorem kApply2 {m : Int} : APure (C m) 28 [vAreas, I 2, I 2] (.tup [.seq 1 [[St bCrit], [St bSens]], I 0]) := ofEq (Applying_pure arsL 2 2 (by decide) polysL) (by kernel_rfl)
theorem kConf {m : Int} : APure (C m) 41 [vAreas, vLands, .seq 8 [cMove]] (.tup [.seq 3 [[I 1, I 0, I 1]], I 0]) := ofEq (Conflicts_pure arsL ldsL [mvM] (by decide) polysL (by decide) (by decide)) (by kernel_rfl)
theorem kPerm {m : Int} : APure (C m) 55 [vAreas, vLands, .agg cMove] (.tup [Bo false, I 0]) := ofEq (Permitted_pure arsL ldsL mvM (by decide) polysL (by decide)) (by kernel_rfl)
theorem kClear1 {m : Int} : APure (C m) 44 [vAreas, vLands, .seq 8 [cMove], I 30] (.tup [Bo false, I 0]) := ofEq (Clear_pure arsL ldsL [mvM] 30 (by decide) polysL (by decide) (by decide)) (by kernel_rfl)
theorem kClear2 {m : Int} : APure (C m) 44 [vAreas, vLands, .seq 8 [cMove], I 29] (.tup [Bo true, I 0]) := ofEq (Clear_pure arsL ldsL [mvM] 29 (by decide) polysL (by decide) (by decide)) (by kernel_rfl)
theorem kClear3 {m : Int} : APure (C m) 44 [vAreas, vLands, .seq 8 [cMove], I 35] (.tup [Bo true, I 0]) := ofEq (Clear_pure arsL ldsL [mvM] 35 (by decide) polysL (by decide) (by decide)) (by kernel_rfl)
theorem kUsable1 {m : Int} : APure (C m) 30 [vAreas, .seq 3 [[St ⟨#[104]⟩, I 5, I 5]], I 2, I 1] (.tup [.seq 1 [[St ⟨#[104]⟩]], I 0]) := ofEq (Usable_pure arsL [⟨⟨#[104]⟩, ⟨5, 5⟩⟩] 2 1 (by decide) polysL (by decide)) (by kernel_rfl)
theorem kUsable2 {m : Int} : APure (C m) 30 [vAreas, .seq 3 [[St ⟨#[104]⟩, I 5, I 5]], I 2, I 2] (.tup [.seq 1 [], I 0]) := ofEq (Usable_pure arsL [⟨⟨#[104]⟩, ⟨5, 5⟩⟩] 2 2 (by decide) polysL (by decide)) (by kernel_rfl)
theorem kTimes {m : Int} : APure (C m) 62 [vFlights, vTable, .seq 1 [[I 1], [I 0], [I 2]]] (.tup [.seq 1 [[I 1], [I 3], [I 6]], I 0]) := ofEq (Times_pure flsL tabT [1, 0, 2] (by decide) (by decide)) (by kernel_rfl)
theorem kDelay {m : Int} : APure (C m) 64 [vFlights, vTable, .seq 1 [[I 0], [I 1], [I 2]]] (.tup [I 9, I 0]) := ofEq (Delay_pure flsL tabT [0, 1, 2] (by decide) (by decide)) (by kernel_rfl)
theorem kBest {m : Int} : APure (C m) 73 [vFlights, vTable] (.tup [.seq 1 [[I 1], [I 0], [I 2]], I 7, I 0]) := ofEq (Best_pure flsL tabT (by decide)) (by kernel_rfl)
theorem kBound {m : Int} : APure (C m) 74 [vFlights, vTable] (.tup [I 3, I 0]) := ofEq (Bound_pure flsL tabT (by decide)) (by kernel_rfl)
end Go.Proofs.Ab.Area
end
section
/- The program is awake. -/
set_option maxRecDepth 100000
set_option linter.unusedVariables false
set_option linter.unusedSimpArgs false
namespace Go.Proofs.Ab.Area
open Go Go.RowKit Go.Proofs.Ab
def smL (a b : Int) : Mv := ⟨⟨#[115]⟩, 1, ⟨⟨1, 1⟩, ⟨2, 2⟩⟩, a, b⟩
abbrev cSm (a b : Int) : List PV := [St ⟨#[115]⟩, I 1, I 1, I 1, I 2, I 2, I a, I b]
theorem kEarl {m : Int} (a b t e : Int) (h0 : sceneE arsL ldsL [smL a b] = 0) (h : earlS arsL ldsL (smL a b) = (t, e)) : APure (C m) 57 [vAreas, vLands, .agg (cSm a b)] (.tup [I t, I e]) := by
  have h1 := Earliest_pure (m := m) arsL ldsL (smL a b) (by decide) polysL (by decide)
  rw [earl_same h0, h] at h1
  exact h1
theorem kEarl1 {m : Int} : APure (C m) 57 [vAreas, vLands, .agg (cSm 5 11)] (.tup [I 20, I 0]) := kEarl 5 11 20 0 (by kernel_rfl) (by kernel_rfl)
theorem kEarl2 {m : Int} : APure (C m) 57 [vAreas, vLands, .agg (cSm 5 16)] (.tup [I 40, I 0]) := kEarl 5 16 40 0 (by kernel_rfl) (by kernel_rfl)
theorem kEarl3 {m : Int} : APure (C m) 57 [vAreas, vLands, .agg (cSm 0 10)] (.tup [I 0, I 0]) := kEarl 0 10 0 0 (by kernel_rfl) (by kernel_rfl)
theorem itoa0 : Lib.itoa 0 = [48] := by simp [Lib.itoa, Lib.decDigits]
theorem itoa1 : Lib.itoa 1 = [49] := by simp [Lib.itoa, Lib.decDigits]
theorem itoa6 : Lib.itoa 6 = [54] := by simp [Lib.itoa, Lib.decDigits]
abbrev textA : ByteArray := ⟨#[97, 114, 101, 97, 32, 99, 114, 105, 116, 32, 49, 32, 49, 32, 48, 32, 48, 32, 54, 32, 48, 32, 48, 32, 54, 10]⟩
theorem printA : printB [arA] = textA := by
  have h : printB [arA] = joinB [lineB arA] ⟨#[]⟩ := rfl
  have hl : lineB arA = textA := by
    unfold lineB wordsA
    simp only [arA, triL, itoaB, itoa0, itoa1, itoa6, List.flatMap_cons, List.flatMap_nil]
    rfl
  rw [h, hl]
  rfl
theorem kPrint {m : Int} : APure (C m) 77 [.seq 4 [cA1]] (.tup [St textA, I 0]) := ofEq (Print_pure [arA] (by decide) (fun _ a ha => polysL (by decide) a (by rw [List.mem_singleton] at ha; rw [ha]; exact List.mem_cons_self))) (by
  have e : areasE [arA] = 0 := by kernel_rfl
  rw [e, if_pos rfl, printA])
theorem kParse {m : Int} : APure (C m) 78 [St textA] (.tup [.seq 4 [cA1], I 0, I 0]) := ofEq (Parse_pure textA) (by kernel_rfl)
theorem kTold {m : Int} : APure (C m) 82 [.seq 4 [cA1]] (.seq 4 [cA1]) := told_pure [arA] (by decide)
theorem kSame {m : Int} : APure (C m) 81 [.seq 4 [cA1], .seq 4 [cA1]] (Bo true) := ofEq (sameAreas_pure [arA] [arA] (by decide) (by decide) (by intro x hx; rw [List.mem_singleton] at hx; rw [hx]; decide) (by intro x hx; rw [List.mem_singleton] at hx; rw [hx]; decide)) (by rw [decide_eq_true rfl])
theorem kW1 {m : Int} : APure (C m) 39 [.seq 1 [[St bCrit]], .seq 1 [[St bCrit]]] (Bo true) := ofEq (sameWords_pure [bCrit] [bCrit] (by decide) (by decide)) (by rw [decide_eq_true rfl])
theorem kW2 {m : Int} : APure (C m) 39 [.seq 1 [[St bCrit], [St bSens]], .seq 1 [[St bCrit], [St bSens]]] (Bo true) := ofEq (sameWords_pure [bCrit, bSens] [bCrit, bSens] (by decide) (by decide)) (by rw [decide_eq_true rfl])
theorem kW3 {m : Int} : APure (C m) 39 [.seq 1 [[St ⟨#[104]⟩]], .seq 1 [[St ⟨#[104]⟩]]] (Bo true) := ofEq (sameWords_pure [⟨#[104]⟩] [⟨#[104]⟩] (by decide) (by decide)) (by rw [decide_eq_true rfl])
theorem kI1 {m : Int} : APure (C m) 72 [.seq 1 [[I 1], [I 3], [I 6]], .seq 1 [[I 1], [I 3], [I 6]]] (Bo true) := ofEq (sameInts_pure [1, 3, 6] [1, 3, 6] (by decide) (by decide)) (by rw [decide_eq_true rfl])
theorem kI2 {m : Int} : APure (C m) 72 [.seq 1 [[I 1], [I 0], [I 2]], .seq 1 [[I 1], [I 0], [I 2]]] (Bo true) := ofEq (sameInts_pure [1, 0, 2] [1, 0, 2] (by decide) (by decide)) (by rw [decide_eq_true rfl])
end Go.Proofs.Ab.Area
end
section
/- The program is awake: the walk. -/
set_option maxRecDepth 100000
set_option linter.unusedVariables false
set_option linter.unusedSimpArgs false
namespace Go.Proofs.Ab.Area
open Go Go.RowKit Go.Proofs.Ab
theorem eq3 {P : Program} {t : TypeId} {f1 f2 f3 : Field} (hS : P.underlying t = some (.struct (P.fieldsOf t))) (hp : P.stoodInHeld t = false) (hf : (P.fieldsOf t).toList = [f1, f2, f3]) (hn1 : f1.name ≠ "_") (hn2 : f2.name ≠ "_") (hn3 : f3.name ≠ "_")
    (hu1 : P.underlying f1.type = some (.int .i64)) (hu2 : P.underlying f2.type = some (.int .i64)) (hu3 : P.underlying f3.type = some (.int .i64)) (ho1 : f1.offset = 0) (ho2 : f2.offset = 1) (ho3 : f3.offset = 2) (a b e c d f : Int) (k : Nat) (w : World) :
    (Op.equalIn (k + 2) t (.agg #[.int .i64 a, .int .i64 b, .int .i64 e]) (.agg #[.int .i64 c, .int .i64 d, .int .i64 f])).run P w = .ok (decide (a = c ∧ b = d ∧ e = f)) w := by
  rw [run_equalIn_struct w (k + 1) t _ _ hS hp, hf]
  by_cases h1 : a = c <;> by_cases h2 : b = d <;> by_cases h3 : e = f <;> simp [Op.eqFields, hn1, hn2, hn3, part, isAgg, run_underlying hu1, run_underlying hu2, run_underlying hu3, ho1, ho2, ho3, run_equalIn_int w k f1.type .i64 .i64 _ _ hu1, run_equalIn_int w k f2.type .i64 .i64 _ _ hu2, run_equalIn_int w k f3.type .i64 .i64 _ _ hu3, h1, h2, h3]
theorem eq_conf {m : Int} (x y : Cf) : EqAgg (C m) 147 (cc x) (cc y) (decide (x.l = y.l ∧ x.m = y.m ∧ x.a = y.a)) := by
  intro x1 y1 w ok us vs hu hv
  obtain ⟨u1, us1, rfl, h1, hu⟩ := hu.uncons
  obtain ⟨u2, us2, rfl, h2, hu⟩ := hu.uncons
  obtain ⟨u3, us3, rfl, h3, hu⟩ := hu.uncons
  obtain rfl := hu.unnil
  obtain ⟨v1, vs1, rfl, g1, hv⟩ := hv.uncons
  obtain ⟨v2, vs2, rfl, g2, hv⟩ := hv.uncons
  obtain ⟨v3, vs3, rfl, g3, hv⟩ := hv.uncons
  obtain rfl := hv.unnil
  cases h1; cases h2; cases h3; cases g1; cases g2; cases g3
  have hm : (C m).P.eqGuardType (C m).P.depth 147 = false := by kernel_rfl
  exact ⟨run_eqGuard_agg w _ 147 x1 y1 _ _ hm, run_eqGuard_agg w _ 147 x1 y1 _ _ hm, eq3 (f1 := ⟨"Landing", 3, 0, false, "", "", 0⟩) (f2 := ⟨"Move", 3, 1, false, "", "", 8⟩) (f3 := ⟨"Area", 3, 2, false, "", "", 16⟩) (by kernel_rfl) (by kernel_rfl) (by kernel_rfl) (by decide) (by decide) (by decide) (by kernel_rfl) (by kernel_rfl) (by kernel_rfl) rfl rfl rfl _ _ _ _ _ _ 9998 w⟩
theorem kEqC {m : Int} : EqAgg (C m) 147 [I 1, I 0, I 1] [I 1, I 0, I 1] true := by
  have := eq_conf (m := m) ⟨1, 0, 1⟩ ⟨1, 0, 1⟩
  rw [decide_eq_true ⟨rfl, rfl, rfl⟩] at this
  exact this
theorem w00 : wrapK IntKind.i64 (0 + 0) = 0 := by kernel_rfl
theorem kText {m : Int} : ∀ w, (binOp .eql 9 (.string textA) (.string textA)).run (C m).P w = .ok (.bool true) w := fun w => by
  have := eql_string (m := m) 9 textA textA w
  rw [decide_eq_true rfl] at this
  exact this
section
attribute [local irreducible] APure
set_option maxHeartbeats 16000000 in
theorem awake_pure {m : Int} : APure (C m) 13 [] (Bo true) := by
  have hin1 : 0 ≤ (0 : Int) ∧ ([[I 1, I 0, I 1]] : List (List PV))[(0 : Int).toNat]? = some [I 1, I 0, I 1] := ⟨by omega, rfl⟩
  have hsl : (0 : Int) ≤ 1 ∧ (1 : Int) ≤ (([cA1, cA2] : List (List PV)).length : Int) := by decide
  refine APure.of_body good [] (fn := Tryz.f13) (by kernel_rfl) (by kernel_rfl) rfl rfl (by kernel_rfl) rfl (by kernel_rfl) ?_
  conv => whnf
  repeat' (first
    | (refine codeK_sound good (mu := []) ?_; conv => whnf)
    | ((first | rw [wl0] | rw [wl1] | rw [wl2] | rw [wl3] | rw [wl4] | rw [wl5]); conv => whnf)
    | (rw [w00]; conv => whnf)
    | (refine SBool.mk (fun _ => ?_) (fun h => absurd (of_decide_eq_true rfl) h); conv => whnf)
    | (refine SBool.mk (fun h => absurd h (of_decide_eq_false rfl)) (fun _ => ?_); conv => whnf)
    | (refine SBool.mk (fun h => ?_) (fun h => ?_) <;> conv => whnf)
    | (refine SEx.mk _ (by first | exact triangle_pure | exact spot_pure _ _ | exact areas_pure | exact landings_pure | exact move_pure | exact flights_pure | exact table_pure | exact span_pure _ _ | exact kIn1 | exact kIn2 | exact kSize | exact kMeets1 | exact kMeets2 | exact kApply1 | exact kApply2 | exact kConf | exact kPerm | exact kClear1 | exact kClear2 | exact kClear3 | exact kUsable1 | exact kUsable2 | exact kEarl1 | exact kEarl2 | exact kEarl3 | exact kTimes | exact kDelay | exact kBest | exact kBound | exact kPrint | exact kParse | exact kTold | exact kSame | exact kW1 | exact kW2 | exact kW3 | exact kI1 | exact kI2 | exact kEqC | exact kText | exact hin1 | exact hsl) ?_; conv => whnf)
    | (refine SEx.mk _ (by first | exact rfl | exact ⟨of_decide_eq_true rfl, rfl⟩) ?_; conv => whnf)
    | (refine SAll.mk (fun _ => ?_); conv => whnf)
    | (refine SAnd.mk (by first | exact hin1 | exact hsl) ?_; conv => whnf)
    | (refine SAnd.mk ⟨by intro c hc; simp at hc; first | (subst hc; rfl) | ((repeat' (rcases hc with rfl | hc)) <;> first | rfl | (subst hc; rfl)), by (simp; first | done | omega), by (simp; first | done | omega)⟩ ?_; conv => whnf)
    | (refine SAnd.mk (by first | exact rfl | kernel_rfl | omega | decide | exact triangle_pure | exact spot_pure _ _ | exact areas_pure | exact landings_pure | exact move_pure | exact flights_pure | exact table_pure | exact span_pure _ _ | exact kIn1 | exact kIn2 | exact kSize | exact kMeets1 | exact kMeets2 | exact kApply1 | exact kApply2 | exact kConf | exact kPerm | exact kClear1 | exact kClear2 | exact kClear3 | exact kUsable1 | exact kUsable2 | exact kEarl1 | exact kEarl2 | exact kEarl3 | exact kTimes | exact kDelay | exact kBest | exact kBound | exact kPrint | exact kParse | exact kTold | exact kSame | exact kW1 | exact kW2 | exact kW3 | exact kI1 | exact kI2 | exact kEqC | exact kText | exact hin1 | exact hsl) ?_; conv => whnf)
    | fail)
  exact ⟨PLe.refl _⟩
end
end Go.Proofs.Ab.Area
end
section
/- The frame of the rows: what the listed variables give; a law's contract becomes the row's. -/
set_option maxRecDepth 100000
set_option linter.unusedVariables false
set_option linter.unusedSimpArgs false
namespace Go.Proofs.Ab.Area
open Go Go.RowKit Go.Proofs.Ab Go.Proofs.YtlgkijilmpjdmaaGreatDoor
theorem own : ownKnob Tryz.prog.godebug = none := by kernel_rfl
theorem laidOut : laidOutB Tryz.prog = true := by kernel_rfl
/-- What the rows list. -/
abbrev listed : List (String × DataW Unit) := Rows.areaShapesRow.laid
theorem glob_of {W : World} (hl : laidMetH Tryz.prog listed W) (hs : W.ShapedOpen Tryz.prog) : ∃ m, GlobOk (C m) W (fun b => b < W.heap.size) := by
  rw [MakeChecks.laidMetH_plain _ _ _ (by kernel_rfl)] at hl
  obtain ⟨t2, f2, h2⟩ := laid_block (n := "internal/strconv.uint64pow10") (d := Rows.laid_internal_strconv_uint64pow10) (g := 1) (k := 3) hl (by simp [listed, Rows.areaShapesRow]) (by kernel_rfl) (t := 340) (by kernel_rfl) (sh := (List.range 20).map fun _ => .int .u64) (by kernel_rfl) rfl
  have e2 : (leavesF 3 (Rows.laid_internal_strconv_uint64pow10 : DataW Unit)).toArray = (Lib.pow10Tab.map fun z => Value.int .u64 z).toArray := by kernel_rfl
  rw [e2] at h2
  obtain ⟨m, t1, f1, h1⟩ := shaped_int (g := 0) (u := 3) hs (of_decide_eq_true (by kernel_rfl)) (zero := #[.int .i64 0]) (t := 3) (by kernel_rfl) (by kernel_rfl) (by kernel_rfl) (by kernel_rfl) (by kernel_rfl)
  have lt : ∀ {g : Nat} {o : Obj}, W.heap[g]? = some o → g < W.heap.size := fun h => (Array.getElem?_eq_some_iff.1 h).1
  refine ⟨m, fun g cs hg => ?_, fun g a hg => ?_⟩
  · have hg : look [(0, [I m])] g = some cs := hg
    by_cases e1 : (0 : Nat) = g
    · subst e1
      obtain rfl : [I m] = cs := Option.some.inj hg
      refine .ref _ [.int .i64 m] 0 0 (lt h1) rfl (fun j c u hc hu => ?_) (fun j u hu => ?_)
      · match j, hc, hu with
        | 0, hc, hu => simp at hc hu; subst hc; subst hu; exact .v _
        | j + 1, hc, hu => simp at hc
      · rw [← hu]; simp [World.cell?, h1]
    · rw [look_cons_ne e1] at hg
      cases hg
  · have hg : look [(1, (Lib.pow10Tab.map fun z => Value.int .u64 z).toArray)] g = some a := hg
    by_cases e : (1 : Nat) = g
    · subst e
      obtain rfl : _ = a := Option.some.inj hg
      exact ⟨lt h2, t2, f2, h2⟩
    · rw [look_cons_ne e] at hg
      cases hg
theorem trodAll_len {H : Type} {enc : TypeId × Value → H} {P : Program} {w : World} {base : Nat} {spare : Nat → Bool} {held : Bool} : ∀ {ts : List TypeId} {vs : List Value} {ds : List (DataW H)} {ps : List MemPlace}, DataW.TrodAll enc P w base spare held ts vs ds ps → ds.length = ts.length
  | [], [], [], _, h => rfl
  | t :: ts, v :: vs, d :: ds, ps, h => by
    obtain ⟨p, q, _, h2, _⟩ := h
    simp [trodAll_len h2]
  | [], [], _ :: _, _, h => h.elim
  | [], _ :: _, _, _, h => h.elim
  | _ :: _, [], _, _, h => h.elim
  | _ :: _, _ :: _, [], _, h => h.elim
/-- A start that meets the condition. -/
theorem witness {os : Os} {f : FuncId} {fn : Func} {s : ChangeSpec} {H : Type} {enc : TypeId × Value → H} (args : Array Value)
    (hok : Input.okWideB Tryz.prog ((World.laidAll Tryz.prog os listed).forCall (fun _ _ => 0) ⟨#[], args, []⟩) f ⟨#[], args, []⟩ = true)
    (hpre : s.preB enc Tryz.prog fn [] false ((World.laidAll Tryz.prog os listed).forCall (fun _ _ => 0) ⟨#[], args, []⟩).memory args 8 = true)
    (hsz : s.sizedB enc Tryz.prog fn false ((World.laidAll Tryz.prog os listed).forCall (fun _ _ => 0) ⟨#[], args, []⟩).memory args 8 = true)
    (hsh : ((World.laidAll Tryz.prog os listed).forCall (fun _ _ => 0) ⟨#[], args, []⟩).Shaped Tryz.prog)
    (hl : laidMet Tryz.prog listed ((World.laidAll Tryz.prog os listed).forCall (fun _ _ => 0) ⟨#[], args, []⟩).memory) :
    ∃ (w : World) (tape : Tape) (i : Input), w.os = os ∧ (w.forCall tape i).Shaped Tryz.prog ∧ i.vars = [] ∧ Input.okWide Tryz.prog (w.forCall tape i) .any w.heap.size f i ∧
      ((s.pre enc Tryz.prog fn [] false (w.forCall tape i).memory i.args ∧ laidMetH Tryz.prog listed (w.forCall tape i).memory) ∧ sizedMet enc Tryz.prog fn (OpenSpec.ofChange s) false (w.forCall tape i).memory i.args) ∧ ({} : Assume).holds Tryz.prog (lone (Frame.enter Tryz.prog f i.args .normal) [] (w.forCall tape i)) :=
  ChangeSpec.witness_shaped (C := Tryz.checked) (X := fun w _ => laidMetH Tryz.prog listed w) false (World.laidAll Tryz.prog os listed) args 8 (World.laidAll_os _ _ _) hsh hok hpre hsz
    (by rw [MakeChecks.laidMetH_plain _ _ _ (by kernel_rfl)]; exact hl)
theorem lifted_of {os : Os} (started : os.Started) {H : Type} {enc : TypeId × Value → H} {f : FuncId} {fn : Func} {s : ChangeSpec} {ss : List (Bool × List Sh)} (noInit : Tryz.prog.inits.idxOf? f = none) (hfn : Tryz.prog.funcs[f]? = some fn)
    (hw : ∃ (w : World) (tape : Tape) (i : Input), w.os = os ∧ (w.forCall tape i).Shaped Tryz.prog ∧ i.vars = [] ∧ Input.okWide Tryz.prog (w.forCall tape i) .any w.heap.size f i ∧
      ((s.pre enc Tryz.prog fn [] false (w.forCall tape i).memory i.args ∧ laidMetH Tryz.prog listed (w.forCall tape i).memory) ∧ sizedMet enc Tryz.prog fn (OpenSpec.ofChange s) false (w.forCall tape i).memory i.args) ∧ ({} : Assume).holds Tryz.prog (lone (Frame.enter Tryz.prog f i.args .normal) [] (w.forCall tape i)))
    (hr : ∀ t ∈ fn.params.toList, Tryz.prog.readableRec t = true ∧ t < Tryz.prog.types.size) (hres : fn.resultTypes = #[4]) (hts : fn.params.toList.map (paramF Tryz.prog 8) = ss.map some)
    (hv : s.vars = []) (hs : ∀ ds : List (DataW H), ds.length = fn.params.toList.length → (s.fn H ds).results = [.lit (.bool true)] ∧ (s.fn H ds).args = ds ∧ (s.fn H ds).vars = [])
    (law : ∀ (m : Int) (xs : List PV), FitPs ss xs → APure (C m) f xs (Bo true)) :
    ReturnsInHanded {} Tryz.checked os f .any (fun w args => (s.pre enc Tryz.prog fn [] false w args ∧ laidMetH Tryz.prog listed w) ∧ sizedMet enc Tryz.prog fn (OpenSpec.ofChange s) false w args) (s.post enc Tryz.prog fn false true false false) := by
  refine returnsInHanded_of_calls (C := Tryz.checked) own started noInit hw ?_
  intro w tape i _ hshaped _ hok hpre _
  obtain ⟨_, _, _, fn', hfn', _, _, _, _, hval⟩ := hok
  obtain rfl : fn' = fn := Option.some.inj (hfn'.symm.trans hfn)
  obtain ⟨⟨⟨ds, gs, before, hwh, hc⟩, hx⟩, hz⟩ := hpre
  have hW := DataW.Whole.of_heap (w' := w.forCall tape i) (by rfl) hwh
  have hx' : laidMetH Tryz.prog listed (w.forCall tape i) := laidMetH.of_heap (by rfl) hx
  obtain ⟨m, hG⟩ := glob_of hx' hshaped
  have hW' := hW
  obtain ⟨p, q, hA, _, _, _, _⟩ := hW'
  obtain ⟨xs, hf, hrep⟩ := open_params (P := Tryz.prog) (n := 8) hA (fun j t v ht hv => hval j t v (by simpa using ht) (by simpa using hv)) hts
  have := law_calls (C := C m) (fresh := true) (handsOn := false) laidOut hr hres (by kernel_rfl) hv (hs ds (trodAll_len hA)) hW (law m xs hf) hG hrep
  refine this.mono fun e W' ⟨v, he, hp⟩ => ?_
  subst he
  exact ChangeSpec.post_blind hp
abbrev ptSh : List Sh := [.int .i64, .int .i64]
abbrev boxSh : List Sh := [.int .i64, .int .i64, .int .i64, .int .i64]
theorem fitL_pt {xs : List PV} (h : FitL ptSh xs) : ∃ p : Pt, xs = pc p := by
  obtain ⟨c1, xs, rfl, h1, h⟩ := h.uncons
  obtain ⟨c2, xs, rfl, h2, h⟩ := h.uncons
  obtain rfl := h.unnil
  obtain ⟨n1, rfl, _⟩ := h1.int_inv
  obtain ⟨n2, rfl, _⟩ := h2.int_inv
  exact ⟨⟨n1, n2⟩, rfl⟩
theorem fit_pt {x : PV} (h : FitP (true, ptSh) x) : ∃ p : Pt, x = .agg (pc p) := by
  obtain ⟨xs, rfl, h⟩ := h
  obtain ⟨p, rfl⟩ := fitL_pt h
  exact ⟨p, rfl⟩
theorem fit_box {x : PV} (h : FitP (true, boxSh) x) : ∃ b : Bx, x = .agg (bc b) := by
  obtain ⟨xs, rfl, h⟩ := h
  obtain ⟨c1, xs, rfl, h1, h⟩ := h.uncons
  obtain ⟨c2, xs, rfl, h2, h⟩ := h.uncons
  obtain ⟨c3, xs, rfl, h3, h⟩ := h.uncons
  obtain ⟨c4, xs, rfl, h4, h⟩ := h.uncons
  obtain rfl := h.unnil
  obtain ⟨n1, rfl, _⟩ := h1.int_inv
  obtain ⟨n2, rfl, _⟩ := h2.int_inv
  obtain ⟨n3, rfl, _⟩ := h3.int_inv
  obtain ⟨n4, rfl, _⟩ := h4.int_inv
  exact ⟨⟨⟨n1, n2⟩, ⟨n3, n4⟩⟩, rfl⟩
theorem rows_of {el : List Sh} {α : Type} {f : α → List PV} (hf : ∀ x, FitL el x → ∃ a, x = f a) : ∀ {xs : List (List PV)}, (∀ x ∈ xs, FitL el x) → ∃ l : List α, xs = l.map f
  | [], _ => ⟨[], rfl⟩
  | x :: xs, h => by
    obtain ⟨a, ha⟩ := hf x (h x List.mem_cons_self)
    obtain ⟨l, hl⟩ := rows_of hf (xs := xs) fun y hy => h y (List.mem_cons_of_mem _ hy)
    exact ⟨a :: l, by rw [ha, hl]; rfl⟩
theorem fit_pts {x : PV} (h : FitP (false, [.sl ptSh]) x) : ∃ l : List Pt, x = .seq 2 (l.map pc) := by
  obtain ⟨c1, xs, e, h1, _⟩ := FitL.uncons h
  cases e
  obtain ⟨xs, rfl, _, hx⟩ := h1.sl_inv
  obtain ⟨l, rfl⟩ := rows_of (fun _ => fitL_pt) hx
  exact ⟨l, rfl⟩
end Go.Proofs.Ab.Area
end
