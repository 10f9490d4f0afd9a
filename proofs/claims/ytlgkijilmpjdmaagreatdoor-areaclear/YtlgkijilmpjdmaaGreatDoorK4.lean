/- The machine, the contracts and the walks on which every Area law rests: a part of the proof. -/
import Derived.Test.YtlgkijilmpjdmaaGreatDoorK3
import Derived.Laws.RangeString
import Derived.Laws.RangeAny
import Derived.Shelf.Strings.Builder1
import Derived.Shelf.Strings.Builder2
import Derived.Shelf.Strings.OnBuilder
import Derived.Shelf.Small.Bits
import Derived.Shelf.Small.Strs
import Derived.Shelf.Small.Wraps
import Derived.Shelf.Utf8.RuneCount
import Derived.Shelf.Strconv.Itoa0
import Derived.Shelf.Strconv.Itoa1
import Derived.Shelf.LaysM
import Derived.Shelf.Strconv.Itoa2
import Derived.Shelf.Strconv.Itoa3
import Derived.Shelf.Strings.Search1
import Derived.Shelf.Strings.Search2
import Derived.Shelf.Strings.Search3
import Derived.Shelf.Strings.Count
import Derived.Shelf.Strings.Shaped
import Derived.Shelf.Strings.Prefix
import Derived.Shelf.Strings.Split
import Derived.Shelf.Strings.SplitShaped
import Derived.Shelf.Unicode.Decode
import Derived.Shelf.Strings.RuneCount
import Derived.Shelf.Strings.Explode
import Derived.Shelf.Unicode.DecodeSlow
import Derived.Shelf.Unicode.DecodeAny
import Derived.Ground.Names2Prog
import Derived.Shelf.Slices.SearchI
import Derived.Test.YtlgkijilmpjdmaaGreatDoorProg
import Derived.Lib.SplitLaws
import Derived.Lib.ItoaLen
section
/- The errors of a polygon. -/
set_option maxRecDepth 100000
set_option linter.unusedVariables false
set_option linter.unusedSimpArgs false
namespace Go.Proofs.Ab.Area
open Go Go.RowKit Go.Proofs.Ab
theorem right_pure {m : Int} (a b c : Pt) (ha : a.Fit) (hb : b.Fit) (hc : c.Fit) : APure (C m) 106 [.agg (pc c), .ref (pc a), .ref (pc b)] (Bo (decide (cr a b c < 0))) := by
  refine APure.of_body good [] (fn := Tryz.f106) (by kernel_rfl) (by kernel_rfl) rfl rfl (by kernel_rfl) rfl (by kernel_rfl) ?_
  conv => whnf
  repeat' (first
    | (refine SBool.mk (fun h => ?_) (fun h => ?_) <;> conv => whnf)
    | (refine SEx.mk _ (by first | exact cross_pure a b c ha hb hc) ?_; conv => whnf)
    | fail)
  · exact ⟨PLe.of_eq (by rw [decide_eq_true (by assumption)])⟩
  · exact ⟨PLe.of_eq (by rw [decide_eq_false (by assumption)])⟩
theorem pt_eq (a c : Pt) : decide (c = a) = decide (a.x = c.x ∧ a.y = c.y) := by
  rw [decide_eq_decide]
  obtain ⟨a1, a2⟩ := a
  obtain ⟨c1, c2⟩ := c
  simp only [Pt.mk.injEq]
  omega
theorem index_pt {m : Int} (a : Pt) (xs : List Pt) (hl : xs.length ≤ 1000000) : APure (C m) 179 [.seq 2 (xs.map pc), .agg (pc a)] (I (idx (fun c => decide (c = a)) xs 0)) := by
  refine APure.of_body good [] (fn := Tryz.f179) (by kernel_rfl) (by kernel_rfl) rfl rfl (by kernel_rfl) rfl (by kernel_rfl) ?_
  conv => whnf
  refine ⟨AWp.loop (ι := { k : Nat // k ≤ xs.length ∧ idx (fun c => decide (c = a)) xs 0 = idx (fun c => decide (c = a)) (xs.drop k) k }) (fun k => ⟨[(8, .p (I k.1)), (7, .p (I xs.length)), (3, .p (.ref (pc a))), (0, .p (.seq 2 (xs.map pc)))], [], [], 0, [], [], []⟩) (fun k => xs.length - k.1) ⟨0, by simp⟩ ?_ ?_⟩
  · skip
    · refine SLe.of [] [] rfl rfl ?_
      conv => whnf
      repeat' (first
      | exact True.intro
      | (refine SAnd.mk (PLe.refl _) ?_; conv => whnf)
      | (refine SAnd.mk (PLe.of_eq (by simp)) ?_; conv => whnf))
  · rintro ⟨k, hk, he⟩
    refine codeK_sound good (mu := []) ?_
    conv => whnf
    refine SBool.mk (fun hc => ?_) (fun hc => ?_)
    · have hkl : k < xs.length := by simpa using hc
      have hsome : 0 ≤ (k : Int) ∧ (xs.map pc)[((k : Int)).toNat]? = some (pc xs[k]) := ⟨by omega, by show (xs.map pc)[k]? = _; simp [hkl]⟩
      have wk : wrapK IntKind.i64 ((k : Int) + 1) = k + 1 := w64 (by omega)
      have hid := idx_drop (fun c => decide (c = a)) hkl
      have heq : EqAgg (C m) 24 (pc a) (pc xs[k]) (decide (xs[k] = a)) := by rw [pt_eq]; exact eq_point a xs[k]
      conv => whnf
      cases hf : decide (xs[k] = a) with
      | true =>
        rw [hf] at heq
        simp only [hf] at hid
        conv => whnf
        repeat' (first
          | (refine SBool.mk (fun _ => ?_) (fun h => absurd (of_decide_eq_true rfl) h); conv => whnf)
          | (refine SEx.mk _ (by first | exact hsome | exact heq) ?_; conv => whnf)
          | (refine SAnd.mk (by first | exact rfl | kernel_rfl | omega | decide | exact hsome | exact heq) ?_; conv => whnf)
          | fail)
        exact ⟨PLe.of_eq (congrArg I (he.trans hid).symm)⟩
      | false =>
        rw [hf] at heq
        simp only [hf] at hid
        conv => whnf
        repeat' (first
          | (rw [wk]; conv => whnf)
          | (refine SBool.mk (fun h => absurd h (of_decide_eq_false rfl)) (fun _ => ?_); conv => whnf)
          | (refine SEx.mk _ (by first | exact hsome | exact heq) ?_; conv => whnf)
          | (refine SAnd.mk (by first | exact rfl | kernel_rfl | omega | decide | exact hsome | exact heq) ?_; conv => whnf)
          | fail)
        refine ⟨⟨k + 1, hkl, he.trans hid⟩, by simp only; omega, ?_⟩
        skip
        · refine SLe.of [] [] rfl rfl ?_
          conv => whnf
          repeat' (first
          | exact True.intro
          | (refine SAnd.mk (PLe.refl _) ?_; conv => whnf))
    · conv => whnf
      have : k = xs.length := by simp at hc; omega
      subst this
      exact ⟨PLe.of_eq (by rw [he]; simp [idx])⟩
theorem contains_pt {m : Int} (a : Pt) (xs : List Pt) (hl : xs.length ≤ 1000000) : APure (C m) 109 [.seq 2 (xs.map pc), .agg (pc a)] (Bo (xs.any fun c => decide (c = a))) := by
  have hi := idx_any (fun c => decide (c = a)) xs
  refine APure.of_body good [] (fn := Tryz.f109) (by kernel_rfl) (by kernel_rfl) rfl rfl (by kernel_rfl) rfl (by kernel_rfl) ?_
  conv => whnf
  repeat' (first
    | (refine SBool.mk (fun h => ?_) (fun h => ?_) <;> conv => whnf)
    | (refine SEx.mk _ (by first | exact index_pt a xs hl) ?_; conv => whnf)
    | fail)
  · exact ⟨PLe.of_eq (by rw [hi.1 (by assumption)])⟩
  · exact ⟨PLe.of_eq (by rw [hi.2 (by assumption)])⟩
theorem firstM_pure {m : Int} {α : Type} (f : α → Int) (xs : List α) (hl : xs.length ≤ 1000000) : APure (C m) 93 [.seq 1 (xs.map fun x => [I (f x)])] (I (firstOf (xs.map f))) := by
  have := first_pure (m := m) (xs.map f) (by rw [List.length_map]; omega)
  unfold ints at this
  rw [List.map_map] at this
  exact this
noncomputable def c25 : Code := Tryz.f25.body.getD .skip
theorem poly_loop {m : Int} (l : List Pt) (h3 : 3 ≤ l.length) (hl : l.length ≤ 1000) (hf : ∀ q ∈ l, q.Fit) :
    AWp (C m) Tryz.f25.ntmps (pieceAt [1, 1] c25) (endV m [ResultVar.tmp 2] (I (if (List.range l.length).any (badB l) then 1 else 0))) ⟨[(0, .p (.seq 2 (l.map pc)))], [], [], 0, [], [], []⟩ := by
  have hlen : (((l.map pc).length : Nat) : Int) = l.length := by simp
  refine codeK_sound good (mu := []) ?_
  conv => whnf
  refine ⟨AWp.loop (ι := { k : Nat // k ≤ l.length ∧ (List.range k).any (badB l) = false }) (fun k => ⟨[(27, .p (I k.1)), (26, .p (I l.length)), (0, .p (.seq 2 (l.map pc)))], [], [], 0, [], [], []⟩) (fun k => l.length - k.1) ⟨0, by simp⟩ ?_ ?_⟩
  · skip
    · refine SLe.of [] [] rfl rfl ?_
      conv => whnf
      repeat' (first
      | exact True.intro
      | (refine SAnd.mk (PLe.refl _) ?_; conv => whnf)
      | (refine SAnd.mk (PLe.of_eq (by simp)) ?_; conv => whnf))
  · rintro ⟨k, hk, hall⟩
    refine codeK_sound good (mu := []) ?_
    conv => whnf
    refine SBool.mk (fun hc => ?_) (fun hc => ?_)
    · have hkl : k < l.length := by simpa using hc
      have hs0 := cor_at hkl
      have hs1 := cor_some (l := l) (by omega) k 1
      have hs2 := cor_some (l := l) (by omega) k 2
      have hne : (l.length : Int) ≠ 0 := by omega
      have hsl : (0 : Int) ≤ (k : Int) ∧ (k : Int) ≤ (l.length : Int) := ⟨by omega, by omega⟩
      have wk : wrapK IntKind.i64 ((k : Int) + 1) = k + 1 := w64 (by omega)
      have wk2 : wrapK IntKind.i64 ((k : Int) + 2) = k + 2 := w64 (by omega)
      have hm : ∀ i, (cor l i).Fit := fun i => hf _ (cor_mem (by omega) i)
      have hcr := cross_pure (m := m) (cor l k) (cor l (k + 1)) (cor l (k + 2)) (hm _) (hm _) (hm _)
      have hcf := containsFunc108 (m := m) (fun c => decide (cr (cor l k) (cor l (k + 1)) c < 0)) 106 [.ref (pc (cor l k)), .ref (pc (cor l (k + 1)))] l (by omega) (fun x hx => right_pure _ _ x (hm _) (hm _) (hf x hx))
      have hct := contains_pt (m := m) (cor l k) (l.take k) (by rw [List.length_take]; omega)
      have htk : (l.map pc).take ((k : Int)).toNat = (l.take k).map pc := by rw [List.map_take]; rfl
      have hb : badB l k = (l.any (fun c => decide (cr (cor l k) (cor l (k + 1)) c < 0)) || decide (cr (cor l k) (cor l (k + 1)) (cor l (k + 2)) ≤ 0) || (l.take k).any fun c => decide (c = cor l k)) := rfl
      have bad : badB l k = true → (if (List.range l.length).any (badB l) then (1 : Int) else 0) = 1 := fun h => by rw [if_pos (range_any_true hkl h)]
      have nxt : badB l k = false → (List.range (k + 1)).any (badB l) = false := fun h => by rw [range_any, hall, h]; rfl
      generalize l.any (fun c => decide (cr (cor l k) (cor l (k + 1)) c < 0)) = b1 at hcf hb
      generalize (l.take k).any (fun c => decide (c = cor l k)) = b3 at hct hb
      conv => whnf
      cases b1 <;> cases b3
      all_goals
        conv => whnf
        repeat' (first
          | (rw [htk]; conv => whnf)
          | (rw [wk2]; conv => whnf)
          | (rw [wk]; conv => whnf)
          | (rw [hlen]; conv => whnf)
          | (refine SBool.mk (fun h => ?_) (fun h => ?_) <;> conv => whnf)
          | (refine SEx.mk _ (by first | exact hs0 | exact hs1 | exact hs2 | exact hne | exact hsl | exact hcf | exact hct | exact hcr) ?_; conv => whnf)
          | (refine SAnd.mk (by first | exact hs0 | exact hs1 | exact hs2 | exact hne | exact hsl | exact hcf | exact hct | exact hcr) ?_; conv => whnf)
          | (refine SAnd.mk (by first | exact rfl | kernel_rfl | omega | decide | exact hs0 | exact hs1 | exact hs2 | exact hne | exact hsl | exact hcf | exact hct | exact hcr) ?_; conv => whnf)
          | fail)
        all_goals first
          | exact ⟨PLe.of_eq (congrArg I (bad (by rw [hb, decide_eq_true (by assumption)]; rfl)).symm)⟩
          | exact ⟨PLe.of_eq (congrArg I (bad (by rw [hb, decide_eq_false (by assumption)]; rfl)).symm)⟩
          | exact ⟨PLe.of_eq (congrArg I (bad (by rw [hb]; rfl)).symm)⟩
          | skip
        all_goals
          refine ⟨⟨k + 1, hkl, nxt (by rw [hb, decide_eq_false (by assumption)]; rfl)⟩, by simp only; omega, ?_⟩
          skip
          · refine SLe.of [] [] rfl rfl ?_
            conv => whnf
            repeat' (first
            | exact True.intro
            | (refine SAnd.mk (PLe.refl _) ?_; conv => whnf))
    · conv => whnf
      have : k = l.length := by simp at hc; omega
      subst this
      exact ⟨PLe.of_eq (congrArg I (by rw [if_neg (by rw [hall]; simp)]))⟩
end Go.Proofs.Ab.Area
end
section
/- A polygon's errors, points in it, its size; a box's errors and corners. -/
set_option maxRecDepth 100000
set_option linter.unusedVariables false
set_option linter.unusedSimpArgs false
namespace Go.Proofs.Ab.Area
open Go Go.RowKit Go.Proofs.Ab
theorem CheckPolygon_pure {m : Int} (l : List Pt) (hl : l.length ≤ 1000) : APure (C m) 25 [.seq 2 (l.map pc)] (I (polyE l)) := by
  have hlen : (((l.map pc).length : Nat) : Int) = l.length := by simp
  have hmp := mapped105 (m := m) ptE 94 [] l (by omega) (fun x _ => checkPoint_pure x)
  have hF := firstM_pure (m := m) ptE l (by omega)
  have pe : ∀ a b : Int, a = (if l.length < 3 then 16 else 0) → b = (if 8 < l.length then 5 else 0) → firstOf [a, b, firstOf (l.map ptE)] = polyF l := fun a b ha hb => by rw [ha, hb]; rfl
  have ret : ∀ a b : Int, a = (if l.length < 3 then 16 else 0) → b = (if 8 < l.length then 5 else 0) → ¬ firstOf [a, b, firstOf (l.map ptE)] = 0 → firstOf [a, b, firstOf (l.map ptE)] = polyE l := fun a b ha hb h => by
    rw [pe a b ha hb] at h ⊢
    unfold polyE
    rw [if_neg h]
  have go : ∀ a b : Int, a = (if l.length < 3 then 16 else 0) → b = (if 8 < l.length then 5 else 0) → firstOf [a, b, firstOf (l.map ptE)] = 0 →
      AWp (C m) Tryz.f25.ntmps (pieceAt [1, 1] c25) (endV m [ResultVar.tmp 2] (I (polyE l))) ⟨[(0, .p (.seq 2 (l.map pc)))], [], [], 0, [], [], []⟩ := fun a b ha hb h => by
    rw [pe a b ha hb] at h
    have hz := polyF_zero.1 h
    have e : polyE l = if (List.range l.length).any (badB l) then 1 else 0 := by unfold polyE; rw [if_pos h]
    rw [e]
    exact poly_loop l hz.1.1 (by omega) (fun q hq => fit_of (hz.2 q hq))
  generalize firstOf (l.map ptE) = F at *
  refine APure.of_wp good (fn := Tryz.f25) (by kernel_rfl) (by kernel_rfl) rfl rfl (by kernel_rfl) rfl (by kernel_rfl) ?_
  refine codeN_sound good (mu := []) (n := 2) ?_
  conv => whnf
  repeat' (first
    | (rw [hlen]; conv => whnf)
    | (refine SBool.mk (fun h => absurd h (of_decide_eq_false rfl)) (fun _ => ?_); conv => whnf)
    | (refine SBool.mk (fun h => ?_) (fun h => ?_) <;> conv => whnf)
    | (refine SEx.mk _ (by first | exact hmp | exact hF | exact when_pure _ _ | exact first3_pure _ _ _) ?_; conv => whnf)
    | fail)
  all_goals first
    | exact ⟨PLe.of_eq (congrArg I (ret _ _ (by first | exact (if_pos (by omega)).symm | exact (if_neg (by omega)).symm) (by first | exact (if_pos (by omega)).symm | exact (if_neg (by omega)).symm) (by assumption)))⟩
    | refine ⟨AWp.le ?_ (go _ _ (by first | exact (if_pos (by omega)).symm | exact (if_neg (by omega)).symm) (by first | exact (if_pos (by omega)).symm | exact (if_neg (by omega)).symm) (by assumption))⟩
  all_goals
    skip
    · refine SLe.of [] [] rfl rfl ?_
      conv => whnf
      repeat' (first
      | exact True.intro
      | (refine SAnd.mk (PLe.refl _) ?_; conv => whnf))
theorem poly_fit {l : List Pt} (h : polyE l = 0) : l.length ≤ 8 ∧ ∀ q ∈ l, q.Fit := by
  have hp := polyE_zero.1 h
  exact ⟨hp.n8, fun q hq => fit_of (hp.rng q hq)⟩
def inR (l : List Pt) (p : Pt) : Bool := if inE l p = 0 then inB l p else false
theorem In_pure {m : Int} (l : List Pt) (p : Pt) (hl : l.length ≤ 1000) : APure (C m) 14 [.seq 2 (l.map pc), .agg (pc p)] (.tup [Bo (inR l p), I (inE l p)]) := by
  by_cases hE : inE l p = 0
  · have hz := hE
    unfold inE at hz
    rw [firstOf_zero, firstOf_zero] at hz
    have e : inR l p = inB l p := if_pos hE
    have e2 : firstOf [polyE l, ptE p] = 0 := hE
    rw [e, hE]
    refine APure.of_body good [] (fn := Tryz.f14) (by kernel_rfl) (by kernel_rfl) rfl rfl (by kernel_rfl) rfl (by kernel_rfl) ?_
    conv => whnf
    repeat' (first
      | (refine SBool.mk (fun h => ?_) (fun h => ?_) <;> conv => whnf)
      | (refine SEx.mk _ (by first | exact CheckPolygon_pure l hl | exact checkPoint_pure _ | exact first2_pure _ _ | exact in_pure l p (by omega) (poly_fit hz.1).2 (fit_of hz.2.1)) ?_; conv => whnf)
      | (refine SAnd.mk (by first | exact rfl | kernel_rfl | omega | decide | exact CheckPolygon_pure l hl | exact checkPoint_pure _ | exact first2_pure _ _ | exact in_pure l p (by omega) (poly_fit hz.1).2 (fit_of hz.2.1)) ?_; conv => whnf)
      | fail)
    · exact ⟨PLe.refl _⟩
    · exact absurd e2 (by assumption)
  · have e : inR l p = false := if_neg hE
    rw [e]
    refine APure.of_body good [] (fn := Tryz.f14) (by kernel_rfl) (by kernel_rfl) rfl rfl (by kernel_rfl) rfl (by kernel_rfl) ?_
    conv => whnf
    repeat' (first
      | (refine SBool.mk (fun h => ?_) (fun h => ?_) <;> conv => whnf)
      | (refine SEx.mk _ (by first | exact CheckPolygon_pure l hl | exact checkPoint_pure _ | exact first2_pure _ _) ?_; conv => whnf)
      | (refine SAnd.mk (by first | exact rfl | kernel_rfl | omega | decide | exact CheckPolygon_pure l hl | exact checkPoint_pure _ | exact first2_pure _ _) ?_; conv => whnf)
      | fail)
    · exact absurd (by assumption) hE
    · exact ⟨PLe.refl _⟩
theorem size_fit {l : List Pt} (hf : ∀ q ∈ l, q.Fit) (hl : 0 < l.length) : ∀ k, (sizeI l k).natAbs ≤ k * 2000000000000
  | 0 => by simp [sizeI]
  | k + 1 => by
    have ih := size_fit hf hl k
    have h1 := hf _ (cor_mem hl k)
    have h2 := hf _ (cor_mem hl (k + 1))
    have m1 : ((cor l k).x * (cor l (k + 1)).y).natAbs ≤ 1000000000000 := by
      rw [Int.natAbs_mul]
      exact Nat.le_trans (Nat.mul_le_mul h1.x h2.y) (by decide)
    have m2 : ((cor l (k + 1)).x * (cor l k).y).natAbs ≤ 1000000000000 := by
      rw [Int.natAbs_mul]
      exact Nat.le_trans (Nat.mul_le_mul h2.x h1.y) (by decide)
    unfold sizeI
    generalize (cor l k).x * (cor l (k + 1)).y = a at *
    generalize (cor l (k + 1)).x * (cor l k).y = b at *
    generalize sizeI l k = c at *
    omega
theorem size_step {l : List Pt} (hf : ∀ q ∈ l, q.Fit) (hl : 0 < l.length) {k : Nat} (hk : k ≤ 1000) : wrapK IntKind.i64 (sizeI l k + wrapK IntKind.i64 (wrapK IntKind.i64 ((cor l k).x * (cor l (k + 1)).y) - wrapK IntKind.i64 ((cor l (k + 1)).x * (cor l k).y))) = sizeI l (k + 1) := by
  have ih := size_fit hf hl k
  have h1 := hf _ (cor_mem hl k)
  have h2 := hf _ (cor_mem hl (k + 1))
  have m1 : ((cor l k).x * (cor l (k + 1)).y).natAbs ≤ 1000000000000 := by
    rw [Int.natAbs_mul]
    exact Nat.le_trans (Nat.mul_le_mul h1.x h2.y) (by decide)
  have m2 : ((cor l (k + 1)).x * (cor l k).y).natAbs ≤ 1000000000000 := by
    rw [Int.natAbs_mul]
    exact Nat.le_trans (Nat.mul_le_mul h2.x h1.y) (by decide)
  have e : sizeI l (k + 1) = sizeI l k + ((cor l k).x * (cor l (k + 1)).y - (cor l (k + 1)).x * (cor l k).y) := rfl
  rw [e]
  clear e
  have hk2 : k * 2000000000000 ≤ 2000000000000000 := by omega
  generalize (cor l k).x * (cor l (k + 1)).y = a at *
  generalize (cor l (k + 1)).x * (cor l k).y = b at *
  generalize sizeI l k = c at *
  rw [w64 (n := a) (by omega), w64 (n := b) (by omega), w64 (n := a - b) (by omega)]
  exact w64 (n := c + (a - b)) (by omega)
noncomputable def c16 : Code := Tryz.f16.body.getD .skip
def sizeR (l : List Pt) : Int := if polyE l = 0 then sizeI l l.length else 0
theorem size_loop {m : Int} (l : List Pt) (h0 : 0 < l.length) (hl : l.length ≤ 1000) (hf : ∀ q ∈ l, q.Fit) :
    AWp (C m) Tryz.f16.ntmps (pieceAt [1, 1] c16) (endV m [ResultVar.tmp 2, ResultVar.tmp 3] (.tup [I (sizeI l l.length), I 0])) ⟨[(0, .p (.seq 2 (l.map pc)))], [], [], 0, [], [], []⟩ := by
  have hlen : (((l.map pc).length : Nat) : Int) = l.length := by simp
  refine codeK_sound good (mu := []) ?_
  conv => whnf
  refine ⟨AWp.loop (ι := { k : Nat // k ≤ l.length }) (fun k => ⟨[(16, .p (I k.1)), (15, .p (I l.length)), (14, .p (.seq 2 (l.map pc))), (5, .p (I (sizeI l k.1))), (0, .p (.seq 2 (l.map pc)))], [], [], 0, [], [], []⟩) (fun k => l.length - k.1) ⟨0, by simp⟩ ?_ ?_⟩
  · skip
    · refine SLe.of [] [] rfl rfl ?_
      conv => whnf
      repeat' (first
      | exact True.intro
      | (refine SAnd.mk (PLe.refl _) ?_; conv => whnf)
      | (refine SAnd.mk (PLe.of_eq (by simp)) ?_; conv => whnf))
  · rintro ⟨k, hk⟩
    refine codeK_sound good (mu := []) ?_
    conv => whnf
    refine SBool.mk (fun hc => ?_) (fun hc => ?_)
    · have hkl : k < l.length := by simpa using hc
      have hs0 := cor_at hkl
      have hs1 := cor_some (l := l) (by omega) k 1
      have hne : (l.length : Int) ≠ 0 := by omega
      have wk : wrapK IntKind.i64 ((k : Int) + 1) = k + 1 := w64 (by omega)
      have hst := size_step hf h0 (show k ≤ 1000 by omega)
      conv => whnf
      conv => whnf
      repeat' (first
        | (rw [wk]; conv => whnf)
        | (rw [hlen]; conv => whnf)
        | (refine SEx.mk _ (by first | exact hs0 | exact hs1 | exact hne) ?_; conv => whnf)
        | (refine SAnd.mk (by first | exact hs0 | exact hs1 | exact hne) ?_; conv => whnf)
        | fail)
      refine ⟨⟨k + 1, hkl⟩, by simp only; omega, ?_⟩
      skip
      · refine SLe.of [] [] rfl rfl ?_
        conv => whnf
        repeat' (first
        | exact True.intro
        | (refine SAnd.mk (PLe.of_eq (congrArg I hst)) ?_; conv => whnf)
        | (refine SAnd.mk (PLe.refl _) ?_; conv => whnf))
    · conv => whnf
      have : k = l.length := by simp at hc; omega
      subst this
      exact ⟨PLe.refl _⟩
theorem Size_pure {m : Int} (l : List Pt) (hl : l.length ≤ 1000) : APure (C m) 16 [.seq 2 (l.map pc)] (.tup [I (sizeR l), I (polyE l)]) := by
  by_cases hE : polyE l = 0
  · have e : sizeR l = sizeI l l.length := if_pos hE
    have hp := polyE_zero.1 hE
    have h3 := hp.conv.n3
    have go := size_loop (m := m) l (by omega) hl (poly_fit hE).2
    rw [e, hE]
    refine APure.of_wp good (fn := Tryz.f16) (by kernel_rfl) (by kernel_rfl) rfl rfl (by kernel_rfl) rfl (by kernel_rfl) ?_
    refine codeN_sound good (mu := []) (n := 2) ?_
    conv => whnf
    repeat' (first
      | (refine SBool.mk (fun h => ?_) (fun h => ?_) <;> conv => whnf)
      | (refine SEx.mk _ (by first | exact CheckPolygon_pure l hl) ?_; conv => whnf)
      | fail)
    · refine ⟨AWp.le ?_ go⟩
      skip
      · refine SLe.of [] [] rfl rfl ?_
        conv => whnf
        repeat' (first
        | exact True.intro
        | (refine SAnd.mk (PLe.refl _) ?_; conv => whnf))
    · exact absurd hE (by assumption)
  · have e : sizeR l = 0 := if_neg hE
    rw [e]
    refine APure.of_body good [] (fn := Tryz.f16) (by kernel_rfl) (by kernel_rfl) rfl rfl (by kernel_rfl) rfl (by kernel_rfl) ?_
    conv => whnf
    repeat' (first
      | (refine SBool.mk (fun h => ?_) (fun h => ?_) <;> conv => whnf)
      | (refine SEx.mk _ (by first | exact CheckPolygon_pure l hl) ?_; conv => whnf)
      | fail)
    · exact absurd (by assumption) hE
    · exact ⟨PLe.refl _⟩
theorem checkBox_pure {m : Int} (b : Bx) : APure (C m) 96 [.agg (bc b)] (I (boxE b)) := by
  have e : ∀ a : Int, a = (if b.hi.x < b.lo.x ∨ b.hi.y < b.lo.y then 11 else 0) → firstOf [ptE b.lo, ptE b.hi, a] = boxE b := fun a h => by rw [h]; rfl
  refine APure.of_body good [] (fn := Tryz.f96) (by kernel_rfl) (by kernel_rfl) rfl rfl (by kernel_rfl) rfl (by kernel_rfl) ?_
  conv => whnf
  repeat' (first
    | (refine SBool.mk (fun h => ?_) (fun h => ?_) <;> conv => whnf)
    | (refine SEx.mk _ (by first | exact checkPoint_pure b.lo | exact checkPoint_pure b.hi | exact when_pure _ _ | exact first3_pure _ _ _) ?_; conv => whnf)
    | (refine SAnd.mk (by first | exact rfl | kernel_rfl | omega | decide | exact checkPoint_pure b.lo | exact checkPoint_pure b.hi | exact when_pure _ _ | exact first3_pure _ _ _) ?_; conv => whnf)
    | fail)
  all_goals exact ⟨PLe.of_eq (congrArg I (e _ (by first | exact (if_pos (by omega)).symm | exact (if_neg (by omega)).symm)))⟩
theorem corners_pure {m : Int} (b : Bx) : APure (C m) 174 [.agg (bc b)] (.seq 2 ((corners b).map pc)) := by
  have heq := eq_point (m := m) b.lo b.hi
  rw [← pt_eq] at heq
  by_cases h : b.lo = b.hi
  · have e : corners b = [b.lo] := if_pos h
    rw [decide_eq_true h.symm] at heq
    rw [e]
    refine APure.of_body good [] (fn := Tryz.f174) (by kernel_rfl) (by kernel_rfl) rfl rfl (by kernel_rfl) rfl (by kernel_rfl) ?_
    conv => whnf
    repeat' (first
      | (refine SBool.mk (fun _ => ?_) (fun h => absurd (of_decide_eq_true rfl) h); conv => whnf)
      | (refine SEx.mk _ (by first | exact heq) ?_; conv => whnf)
      | fail)
    exact ⟨PLe.refl _⟩
  · have e : corners b = four b := if_neg h
    rw [decide_eq_false (fun h' => h h'.symm)] at heq
    rw [e]
    refine APure.of_body good [] (fn := Tryz.f174) (by kernel_rfl) (by kernel_rfl) rfl rfl (by kernel_rfl) rfl (by kernel_rfl) ?_
    conv => whnf
    repeat' (first
      | (refine SBool.mk (fun h => absurd h (of_decide_eq_false rfl)) (fun _ => ?_); conv => whnf)
      | (refine SEx.mk _ (by first | exact heq) ?_; conv => whnf)
      | fail)
    exact ⟨PLe.refl _⟩
theorem not_pure {m : Int} (f : Pt → Bool) (g : FuncId) (caps : List PV) (x : Pt) (h : APure (C m) g (.agg (pc x) :: caps) (Bo (f x))) : APure (C m) 208 [.agg (pc x), .ref [.fn g caps]] (Bo (!f x)) := by
  cases hf : f x with
  | true =>
    rw [hf] at h
    refine APure.of_body good [] (fn := Tryz.f208) (by kernel_rfl) (by kernel_rfl) rfl rfl (by kernel_rfl) rfl (by kernel_rfl) ?_
    conv => whnf
    repeat' (first
      | (refine SEx.mk _ (by first | exact h) ?_; conv => whnf)
      | fail)
    exact ⟨PLe.refl _⟩
  | false =>
    rw [hf] at h
    refine APure.of_body good [] (fn := Tryz.f208) (by kernel_rfl) (by kernel_rfl) rfl rfl (by kernel_rfl) rfl (by kernel_rfl) ?_
    conv => whnf
    repeat' (first
      | (refine SEx.mk _ (by first | exact h) ?_; conv => whnf)
      | fail)
    exact ⟨PLe.refl _⟩
theorem all_pure {m : Int} (f : Pt → Bool) (g : FuncId) (caps : List PV) (xs : List Pt) (hl : xs.length ≤ 1000000) (h : ∀ x ∈ xs, APure (C m) g (.agg (pc x) :: caps) (Bo (f x))) : APure (C m) 173 [.seq 2 (xs.map pc), .fn g caps] (Bo (xs.all f)) := by
  have hcf := containsFunc108 (m := m) (fun x => !f x) 208 [.ref [.fn g caps]] xs hl (fun x hx => not_pure f g caps x (h x hx))
  have e : xs.all f = !(xs.any fun x => !f x) := by rw [List.not_any_eq_all_not]; simp
  rw [e]
  generalize (xs.any fun x => !f x) = b at hcf
  cases b
  all_goals
    refine APure.of_body good [] (fn := Tryz.f173) (by kernel_rfl) (by kernel_rfl) rfl rfl (by kernel_rfl) rfl (by kernel_rfl) ?_
    conv => whnf
    repeat' (first
      | (refine SEx.mk _ (by first | exact hcf) ?_; conv => whnf)
      | fail)
    exact ⟨PLe.refl _⟩
end Go.Proofs.Ab.Area
end
section
/- What a box meets. -/
set_option maxRecDepth 100000
set_option linter.unusedVariables false
set_option linter.unusedSimpArgs false
namespace Go.Proofs.Ab.Area
open Go Go.RowKit Go.Proofs.Ab
theorem side1_pure {m : Int} (b : Bx) (p : Pt) : APure (C m) 209 [.agg (bc b), .agg (pc p)] (Bo (decide (p.x < b.lo.x))) := by
  refine APure.of_body good [] (fn := Tryz.f209) (by kernel_rfl) (by kernel_rfl) rfl rfl (by kernel_rfl) rfl (by kernel_rfl) ?_
  conv => whnf
  repeat' (first
    | (refine SBool.mk (fun h => ?_) (fun h => ?_) <;> conv => whnf)
    | fail)
  · exact ⟨PLe.of_eq (by rw [decide_eq_true (by assumption)])⟩
  · exact ⟨PLe.of_eq (by rw [decide_eq_false (by assumption)])⟩
theorem side2_pure {m : Int} (b : Bx) (p : Pt) : APure (C m) 210 [.agg (bc b), .agg (pc p)] (Bo (decide (b.hi.x < p.x))) := by
  refine APure.of_body good [] (fn := Tryz.f210) (by kernel_rfl) (by kernel_rfl) rfl rfl (by kernel_rfl) rfl (by kernel_rfl) ?_
  conv => whnf
  repeat' (first
    | (refine SBool.mk (fun h => ?_) (fun h => ?_) <;> conv => whnf)
    | fail)
  · exact ⟨PLe.of_eq (by rw [decide_eq_true (by assumption)])⟩
  · exact ⟨PLe.of_eq (by rw [decide_eq_false (by assumption)])⟩
theorem side3_pure {m : Int} (b : Bx) (p : Pt) : APure (C m) 211 [.agg (bc b), .agg (pc p)] (Bo (decide (p.y < b.lo.y))) := by
  refine APure.of_body good [] (fn := Tryz.f211) (by kernel_rfl) (by kernel_rfl) rfl rfl (by kernel_rfl) rfl (by kernel_rfl) ?_
  conv => whnf
  repeat' (first
    | (refine SBool.mk (fun h => ?_) (fun h => ?_) <;> conv => whnf)
    | fail)
  · exact ⟨PLe.of_eq (by rw [decide_eq_true (by assumption)])⟩
  · exact ⟨PLe.of_eq (by rw [decide_eq_false (by assumption)])⟩
theorem side4_pure {m : Int} (b : Bx) (p : Pt) : APure (C m) 212 [.agg (bc b), .agg (pc p)] (Bo (decide (b.hi.y < p.y))) := by
  refine APure.of_body good [] (fn := Tryz.f212) (by kernel_rfl) (by kernel_rfl) rfl rfl (by kernel_rfl) rfl (by kernel_rfl) ?_
  conv => whnf
  repeat' (first
    | (refine SBool.mk (fun h => ?_) (fun h => ?_) <;> conv => whnf)
    | fail)
  · exact ⟨PLe.of_eq (by rw [decide_eq_true (by assumption)])⟩
  · exact ⟨PLe.of_eq (by rw [decide_eq_false (by assumption)])⟩
theorem sides_pure {m : Int} : APure (C m) 176 [] (.agg [.fn 209 [], .fn 210 [], .fn 211 [], .fn 212 []]) := by
  refine APure.of_body good [] (fn := Tryz.f176) (by kernel_rfl) (by kernel_rfl) rfl rfl (by kernel_rfl) rfl (by kernel_rfl) ?_
  conv => whnf
  repeat' (first
    | fail)
  exact ⟨PLe.refl _⟩
theorem beyond_pure {m : Int} (N : FuncId) (f : Pt → Bool) (b : Bx) (p : Pt) (h : APure (C m) N [.agg (bc b), .agg (pc p)] (Bo (f p))) : APure (C m) 177 [.agg (pc p), .ref [.fn N []], .ref (bc b)] (Bo (f p)) := by
  refine APure.of_body good [] (fn := Tryz.f177) (by kernel_rfl) (by kernel_rfl) rfl rfl (by kernel_rfl) rfl (by kernel_rfl) ?_
  conv => whnf
  repeat' (first
    | (refine SEx.mk _ (by first | exact h) ?_; conv => whnf)
    | fail)
  exact ⟨PLe.refl _⟩
theorem outside_pure {m : Int} (l : List Pt) (k : Nat) (hk : k < l.length) (hl : l.length ≤ 1000) (hf : ∀ q ∈ l, q.Fit) (p : Pt) (hp : p.Fit) : APure (C m) 175 [.agg (pc p), .ref [.seq 2 (l.map pc)], .ref [I k]] (Bo (decide (cr (cor l k) (cor l (k + 1)) p < 0))) := by
  have hlen : (((l.map pc).length : Nat) : Int) = l.length := by simp
  have hs0 := cor_at hk
  have hs1 := cor_some (l := l) (by omega) k 1
  have hne : (l.length : Int) ≠ 0 := by omega
  have wk : wrapK IntKind.i64 ((k : Int) + 1) = k + 1 := w64 (by omega)
  have hcr := cross_pure (m := m) (cor l k) (cor l (k + 1)) p (hf _ (cor_mem (by omega) _)) (hf _ (cor_mem (by omega) _)) hp
  refine APure.of_body good [] (fn := Tryz.f175) (by kernel_rfl) (by kernel_rfl) rfl rfl (by kernel_rfl) rfl (by kernel_rfl) ?_
  conv => whnf
  repeat' (first
    | (rw [wk]; conv => whnf)
    | (rw [hlen]; conv => whnf)
    | (refine SBool.mk (fun h => ?_) (fun h => ?_) <;> conv => whnf)
    | (refine SEx.mk _ (by first | exact hs0 | exact hs1 | exact hne | exact hcr) ?_; conv => whnf)
    | (refine SAnd.mk (by first | exact hs0 | exact hs1 | exact hne | exact hcr) ?_; conv => whnf)
    | (refine SAnd.mk (by first | exact rfl | kernel_rfl | omega | decide | exact hs0 | exact hs1 | exact hne | exact hcr) ?_; conv => whnf)
    | fail)
  · exact ⟨PLe.of_eq (by rw [decide_eq_true (by assumption)])⟩
  · exact ⟨PLe.of_eq (by rw [decide_eq_false (by assumption)])⟩
structure Bx.Fit (b : Bx) : Prop where
  lo : b.lo.Fit
  hi : b.hi.Fit
theorem box_fit {b : Bx} (h : boxE b = 0) : b.Fit := by
  unfold boxE at h
  rw [firstOf_zero, firstOf_zero] at h
  exact ⟨fit_of h.1, fit_of h.2.1⟩
theorem corners_fit {b : Bx} (h : b.Fit) : ∀ p ∈ corners b, p.Fit := by
  rw [corners_four]
  intro p hp
  simp only [four, List.mem_cons, List.not_mem_nil, or_false] at hp
  rcases hp with rfl | rfl | rfl | rfl
  · exact h.lo
  · exact ⟨h.hi.x, h.lo.y⟩
  · exact h.hi
  · exact ⟨h.lo.x, h.hi.y⟩
set_option maxHeartbeats 4000000 in
theorem meets_pure {m : Int} (l : List Pt) (b : Bx) (hl : l.length ≤ 1000) (hf : ∀ q ∈ l, q.Fit) (hb : b.Fit) : APure (C m) 97 [.seq 2 (l.map pc), .agg (bc b)] (Bo (meetsB l b)) := by
  have hlen : (((l.map pc).length : Nat) : Int) = l.length := by simp
  have hco := corners_pure (m := m) b
  have hcl : (corners b).length ≤ 1000000 := by unfold corners; split <;> simp [four]
  have a1 := all_pure (m := m) (fun p => decide (p.x < b.lo.x)) 177 [.ref [.fn 209 []], .ref (bc b)] l (by omega) (fun p _ => beyond_pure 209 (fun p => decide (p.x < b.lo.x)) b p (side1_pure b p))
  have a2 := all_pure (m := m) (fun p => decide (b.hi.x < p.x)) 177 [.ref [.fn 210 []], .ref (bc b)] l (by omega) (fun p _ => beyond_pure 210 (fun p => decide (b.hi.x < p.x)) b p (side2_pure b p))
  have a3 := all_pure (m := m) (fun p => decide (p.y < b.lo.y)) 177 [.ref [.fn 211 []], .ref (bc b)] l (by omega) (fun p _ => beyond_pure 211 (fun p => decide (p.y < b.lo.y)) b p (side3_pure b p))
  have a4 := all_pure (m := m) (fun p => decide (b.hi.y < p.y)) 177 [.ref [.fn 212 []], .ref (bc b)] l (by omega) (fun p _ => beyond_pure 212 (fun p => decide (b.hi.y < p.y)) b p (side4_pure b p))
  have hsd : sideB l b = (l.all (fun p => decide (p.x < b.lo.x)) || l.all (fun p => decide (b.hi.x < p.x)) || l.all (fun p => decide (p.y < b.lo.y)) || l.all fun p => decide (b.hi.y < p.y)) := rfl
  have hm : meetsB l b = (!sepB l b && !sideB l b) := rfl
  rw [hsd] at hm
  generalize l.all (fun p => decide (p.x < b.lo.x)) = s1 at a1 hm
  generalize l.all (fun p => decide (b.hi.x < p.x)) = s2 at a2 hm
  generalize l.all (fun p => decide (p.y < b.lo.y)) = s3 at a3 hm
  generalize l.all (fun p => decide (b.hi.y < p.y)) = s4 at a4 hm
  refine APure.of_body good [] (fn := Tryz.f97) (by kernel_rfl) (by kernel_rfl) rfl rfl (by kernel_rfl) rfl (by kernel_rfl) ?_
  conv => whnf
  refine ⟨AWp.loop (ι := { k : Nat // k ≤ l.length ∧ (List.range k).any (fun i => (corners b).all fun p => decide (cr (cor l i) (cor l (i + 1)) p < 0)) = false }) (fun k => ⟨[(11, .p (I k.1)), (10, .p (I l.length)), (5, .p (Bo false)), (3, .p (.ref (bc b))), (2, .p (.ref [.seq 2 (l.map pc)]))], [], [], 0, [], [], []⟩) (fun k => l.length - k.1) ⟨0, by simp⟩ ?_ ?_⟩
  · skip
    · refine SLe.of [] [] rfl rfl ?_
      conv => whnf
      repeat' (first
      | exact True.intro
      | (refine SAnd.mk (PLe.refl _) ?_; conv => whnf)
      | (refine SAnd.mk (PLe.of_eq (by simp)) ?_; conv => whnf))
  · rintro ⟨k, hk, hall⟩
    refine codeK_sound good (mu := []) ?_
    conv => whnf
    refine SBool.mk (fun hc => ?_) (fun hc => ?_)
    · have hkl : k < l.length := by simpa using hc
      have wk : wrapK IntKind.i64 ((k : Int) + 1) = k + 1 := w64 (by omega)
      have ha := all_pure (m := m) (fun p => decide (cr (cor l k) (cor l (k + 1)) p < 0)) 175 [.ref [.seq 2 (l.map pc)], .ref [I k]] (corners b) hcl (fun p hp => outside_pure l k hkl hl hf p (corners_fit hb p hp))
      have yes : ((corners b).all fun p => decide (cr (cor l k) (cor l (k + 1)) p < 0)) = true → meetsB l b = false := fun h => by
        have : sepB l b = true := range_any_true hkl h
        unfold meetsB
        rw [this]; rfl
      have no : ((corners b).all fun p => decide (cr (cor l k) (cor l (k + 1)) p < 0)) = false → (List.range (k + 1)).any (fun i => (corners b).all fun p => decide (cr (cor l i) (cor l (i + 1)) p < 0)) = false := fun h => by rw [range_any, hall, h]; rfl
      generalize ((corners b).all fun p => decide (cr (cor l k) (cor l (k + 1)) p < 0)) = c at ha yes no
      conv => whnf
      cases c
      · skip
        conv => whnf
        repeat' (first
          | (rw [wk]; conv => whnf)
          | (refine SEx.mk _ (by first | exact hco | exact ha) ?_; conv => whnf)
          | fail)
        refine ⟨⟨k + 1, hkl, no rfl⟩, by simp only; omega, ?_⟩
        skip
        · refine SLe.of [] [] rfl rfl ?_
          conv => whnf
          repeat' (first
          | exact True.intro
          | (refine SAnd.mk (PLe.refl _) ?_; conv => whnf))
      · skip
        conv => whnf
        repeat' (first
          | (refine SEx.mk _ (by first | exact hco | exact ha) ?_; conv => whnf)
          | fail)
        exact ⟨PLe.of_eq (congrArg Bo (yes rfl).symm)⟩
    · conv => whnf
      have : k = l.length := by simp at hc; omega
      subst this
      have hsep : sepB l b = false := hall
      rw [hsep] at hm
      rw [hm]
      cases s1 <;> cases s2 <;> cases s3 <;> cases s4
      all_goals
        conv => whnf
        repeat' (first
          | (refine codeK_sound good (mu := []) ?_; conv => whnf)
          | ((first | rw [wl0] | rw [wl1] | rw [wl2] | rw [wl3] | rw [wl4] | rw [wl5]); conv => whnf)
          | (refine SBool.mk (fun _ => ?_) (fun h => absurd (of_decide_eq_true rfl) h); conv => whnf)
          | (refine SBool.mk (fun h => absurd h (of_decide_eq_false rfl)) (fun _ => ?_); conv => whnf)
          | refine SCode.mk (AWp.rounds 5 ?_)
          | (refine SEx.mk _ (by first | exact sides_pure | exact a1 | exact a2 | exact a3 | exact a4) ?_; conv => whnf)
          | (refine SAnd.mk (by first | exact rfl | kernel_rfl | omega | decide | exact sides_pure | exact a1 | exact a2 | exact a3 | exact a4) ?_; conv => whnf)
          | fail)
        all_goals exact ⟨PLe.refl _⟩
def meetsR (l : List Pt) (b : Bx) : Bool := if meetsE l b = 0 then meetsB l b else false
theorem Meets_pure {m : Int} (l : List Pt) (b : Bx) (hl : l.length ≤ 1000) : APure (C m) 17 [.seq 2 (l.map pc), .agg (bc b)] (.tup [Bo (meetsR l b), I (meetsE l b)]) := by
  by_cases hE : meetsE l b = 0
  · have hz := hE
    unfold meetsE at hz
    rw [firstOf_zero, firstOf_zero] at hz
    have e : meetsR l b = meetsB l b := if_pos hE
    have e2 : firstOf [polyE l, boxE b] = 0 := hE
    rw [e, hE]
    refine APure.of_body good [] (fn := Tryz.f17) (by kernel_rfl) (by kernel_rfl) rfl rfl (by kernel_rfl) rfl (by kernel_rfl) ?_
    conv => whnf
    repeat' (first
      | (refine SBool.mk (fun h => ?_) (fun h => ?_) <;> conv => whnf)
      | (refine SEx.mk _ (by first | exact CheckPolygon_pure l hl | exact checkBox_pure _ | exact first2_pure _ _ | exact meets_pure l b (by omega) (poly_fit hz.1).2 (box_fit hz.2.1)) ?_; conv => whnf)
      | (refine SAnd.mk (by first | exact rfl | kernel_rfl | omega | decide | exact CheckPolygon_pure l hl | exact checkBox_pure _ | exact first2_pure _ _ | exact meets_pure l b (by omega) (poly_fit hz.1).2 (box_fit hz.2.1)) ?_; conv => whnf)
      | fail)
    · exact ⟨PLe.refl _⟩
    · exact absurd e2 (by assumption)
  · have e : meetsR l b = false := if_neg hE
    rw [e]
    refine APure.of_body good [] (fn := Tryz.f17) (by kernel_rfl) (by kernel_rfl) rfl rfl (by kernel_rfl) rfl (by kernel_rfl) ?_
    conv => whnf
    repeat' (first
      | (refine SBool.mk (fun h => ?_) (fun h => ?_) <;> conv => whnf)
      | (refine SEx.mk _ (by first | exact CheckPolygon_pure l hl | exact checkBox_pure _ | exact first2_pure _ _) ?_; conv => whnf)
      | (refine SAnd.mk (by first | exact rfl | kernel_rfl | omega | decide | exact CheckPolygon_pure l hl | exact checkBox_pure _ | exact first2_pure _ _) ?_; conv => whnf)
      | fail)
    · exact absurd (by assumption) hE
    · exact ⟨PLe.refl _⟩
end Go.Proofs.Ab.Area
end
section
/- Names. -/
set_option maxRecDepth 100000
set_option linter.unusedVariables false
set_option linter.unusedSimpArgs false
namespace Go.Proofs.Ab.Area
open Go Go.RowKit Go.Proofs.Ab
theorem toList_beq (a b : ByteArray) : (a.toList == b.toList) = decide (a = b) := by
  by_cases h : a = b
  · subst h; simp
  · have : ¬ a.toList = b.toList := fun e => h (by
      rw [ByteArray.toList_eq, ByteArray.toList_eq] at e
      obtain ⟨⟨x⟩⟩ := a
      obtain ⟨⟨y⟩⟩ := b
      simp at e
      rw [e])
    simp [h, this]
theorem neq_string {m : Int} (t : TypeId) (a b : ByteArray) : ∀ w, (binOp .neq t (.string a) (.string b)).run (C m).P w = .ok (.bool (decide (a ≠ b))) w := by
  intro w
  rw [binOp_string_neq, toList_beq]
  by_cases h : a = b <;> simp [h]
theorem eql_string {m : Int} (t : TypeId) (a b : ByteArray) : ∀ w, (binOp .eql t (.string a) (.string b)).run (C m).P w = .ok (.bool (decide (a = b))) w := by
  intro w
  rw [binOp_string_eql, toList_beq]
  rfl
def letterP (n : Nat) : Prop := (97 ≤ n ∧ n ≤ 122) ∨ (65 ≤ n ∧ n ≤ 90)
def otherP (n : Nat) : Prop := (48 ≤ n ∧ n ≤ 57) ∨ n = 95
theorem letter_iff {c : UInt8} : letter c = true ↔ letterP c.toNat := by
  unfold letter letterP
  rw [Bool.or_eq_true, decide_eq_true_eq, decide_eq_true_eq]
theorem other_iff {c : UInt8} : other c = true ↔ otherP c.toNat := by
  unfold other otherP
  rw [Bool.or_eq_true, decide_eq_true_eq, decide_eq_true_eq]
def goodN : Nat → List UInt8 → Bool
  | _, [] => true
  | i, c :: l => (letter c || (decide (i ≠ 0) && other c)) && goodN (i + 1) l
theorem goodN_all : ∀ (l : List UInt8) (i : Nat), i ≠ 0 → goodN i l = l.all fun c => letter c || other c
  | [], _, _ => rfl
  | c :: l, i, h => by
    unfold goodN
    rw [goodN_all l (i + 1) (by omega), List.all_cons, decide_eq_true h, Bool.true_and]
theorem nameL_eq (l : List UInt8) : nameL l = (goodN 0 l && decide (l ≠ []) && decide (l.length ≤ 24)) := by
  cases l with
  | nil => rfl
  | cons c l =>
    have : decide (l.length < 24) = decide ((c :: l).length ≤ 24) := by rw [decide_eq_decide, List.length_cons]; omega
    show (letter c && l.all (fun c => letter c || other c) && decide (l.length < 24)) = (((letter c || (decide (0 ≠ 0) && other c)) && goodN 1 l) && decide (c :: l ≠ []) && decide ((c :: l).length ≤ 24))
    rw [goodN_all l 1 (by omega), this]
    simp
theorem goodN_drop {l : List UInt8} {k : Nat} (h : k < l.length) : goodN k (l.drop k) = ((letter l[k] || (decide (k ≠ 0) && other l[k])) && goodN (k + 1) (l.drop (k + 1))) := by
  rw [List.drop_eq_getElem_cons h]
  rfl
theorem goodN_bad {l : List UInt8} {k : Nat} (h : k < l.length) (h1 : ¬ letterP l[k].toNat) (h2 : k = 0 ∨ ¬ otherP l[k].toNat) : goodN k (l.drop k) = false := by
  rw [goodN_drop h]
  have e1 : letter l[k] = false := by
    cases e : letter l[k] with
    | false => rfl
    | true => exact absurd (letter_iff.1 e) h1
  rcases h2 with h2 | h2
  · rw [e1, decide_eq_false (by simpa using h2)]; rfl
  · have e2 : other l[k] = false := by
      cases e : other l[k] with
      | false => rfl
      | true => exact absurd (other_iff.1 e) h2
    rw [e1, e2, Bool.and_false]; rfl
theorem goodN_ok {l : List UInt8} {k : Nat} (h : k < l.length) (h1 : letterP l[k].toNat ∨ (k ≠ 0 ∧ otherP l[k].toNat)) : goodN k (l.drop k) = goodN (k + 1) (l.drop (k + 1)) := by
  rw [goodN_drop h]
  rcases h1 with h1 | ⟨h1, h2⟩
  · rw [letter_iff.2 h1]; simp
  · rw [other_iff.2 h2, decide_eq_true h1]; simp
theorem IsName_pure {m : Int} (s : ByteArray) : APure (C m) 180 [St s] (Bo (nameB s)) := by
  obtain ⟨l, rfl⟩ : ∃ l : List UInt8, s = ⟨l.toArray⟩ := ⟨s.data.toList, by simp⟩
  have hbs : (⟨l.toArray⟩ : ByteArray).size = l.length := by simp [ByteArray.size]
  have hn : nameB ⟨l.toArray⟩ = (goodN 0 l && decide (l ≠ []) && decide (l.length ≤ 24)) := by
    have : nameB ⟨l.toArray⟩ = nameL l := by unfold nameB; simp
    rw [this, nameL_eq]
  have hbad : goodN 0 l = false → nameB ⟨l.toArray⟩ = false := fun h => by rw [hn, h]; rfl
  refine APure.of_body good [] (fn := Tryz.f180) (by kernel_rfl) (by kernel_rfl) rfl rfl (by kernel_rfl) rfl (by kernel_rfl) ?_
  conv => whnf
  repeat' (first
    | (refine SAll.mk (fun _ => ?_); conv => whnf)
    | fail)
  · rename_i g
    refine ⟨AWp.loop (ι := { k : Nat // k ≤ l.length ∧ goodN 0 l = goodN k (l.drop k) }) (fun k => ⟨[(7, .p (.v (.pointer (some ⟨g, 0, none⟩)))), (0, .p (St ⟨l.toArray⟩))], [], [], 1, [], [(0, .siter g ⟨l.toArray⟩ k.1)], []⟩) (fun k => l.length - k.1) ⟨0, by simp, by simp⟩ ?_ ?_⟩
    · skip
      · refine SLe.ofO [] [] [(0, 0)] rfl rfl rfl ?_
        conv => whnf
        repeat' (first
        | exact True.intro
        | (refine SAnd.mk (PLe.refl _) ?_; conv => whnf)
        | (refine SAnd.mk ⟨rfl, rfl, rfl⟩ ?_; conv => whnf))
    · rintro ⟨k, hk, hg⟩
      refine codeK_sound good (mu := []) ?_
      conv => whnf
      refine SAnd.mk rfl ?_
      conv => whnf
      refine SBool.mk (fun hc => ?_) (fun hc => ?_)
      · have hkl : k < l.length := by rw [hbs] at hc; exact hc
        have hks : k < (⟨l.toArray⟩ : ByteArray).size := by rw [hbs]; exact hkl
        have hget : (⟨l.toArray⟩ : ByteArray)[k]'hks = l[k] := rfl
        have bad : ¬ letterP l[k].toNat → (k = 0 ∨ ¬ otherP l[k].toNat) → nameB ⟨l.toArray⟩ = false := fun h1 h2 => hbad (by rw [hg]; exact goodN_bad hkl h1 h2)
        have ok : (letterP l[k].toNat ∨ (k ≠ 0 ∧ otherP l[k].toNat)) → goodN 0 l = goodN (k + 1) (l.drop (k + 1)) := fun h => by rw [hg]; exact goodN_ok hkl h
        clear hn hbad
        conv => whnf
        rcases Nat.lt_or_ge l[k].toNat 128 with hasc | hhigh
        · have hdec : Utf8.decode ⟨l.toArray⟩ k = (l[k].toNat, 1) := by
            rw [decode_ascii _ _ hks (by rw [hget]; exact hasc), hget]
          unfold letterP otherP at bad ok
          generalize l[k].toNat = c at *
          conv => whnf
          repeat' (first
            | (refine SBool.mk (fun h => ?_) (fun h => ?_) <;> conv => whnf)
            | (refine SEx.mk _ (by first | exact hdec) ?_; conv => whnf)
            | fail)
          all_goals
            dsimp only at *
            first
              | exact ⟨PLe.of_eq (congrArg Bo (bad (by omega) (by omega)).symm)⟩
              | skip
          all_goals
            refine ⟨⟨k + 1, hkl, ok (by omega)⟩, by simp only; omega, ?_⟩
            skip
            · refine SLe.ofO [] [] [(0, 0)] rfl rfl rfl ?_
              conv => whnf
              repeat' (first
              | exact True.intro
              | (refine SAnd.mk (PLe.refl _) ?_; conv => whnf)
              | (refine SAnd.mk ⟨rfl, rfl, rfl⟩ ?_; conv => whnf))
        · obtain ⟨hc1, hc2⟩ := decode_high _ k hks (by rw [hget]; exact hhigh)
          obtain ⟨cw, hcw⟩ : ∃ cw, Utf8.decode ⟨l.toArray⟩ k = cw := ⟨_, rfl⟩
          rw [hcw] at hc1
          have hb := bad (by unfold letterP; omega) (.inr (by unfold otherP; omega))
          conv => whnf
          repeat' (first
            | (refine SBool.mk (fun h => ?_) (fun h => ?_) <;> conv => whnf)
            | (refine SEx.mk _ (by first | exact hcw) ?_; conv => whnf)
            | fail)
          all_goals
            dsimp only at *
            first
              | exact ⟨PLe.of_eq (congrArg Bo hb.symm)⟩
              | omega
      · have hc' : ¬ k < (⟨l.toArray⟩ : ByteArray).size := hc
        have : k = l.length := by rw [hbs] at hc'; omega
        subst this
        have hg' : goodN 0 l = true := by rw [hg, List.drop_length]; rfl
        rw [hg', Bool.true_and] at hn
        clear hc hc' hbad
        rcases l with _ | ⟨c, l⟩
        · skip
          conv => whnf
          repeat' (first
            | (refine SBool.mk (fun h => absurd h (of_decide_eq_false rfl)) (fun _ => ?_); conv => whnf)
            | (refine SEx.mk _ (by first | exact neq_string _ _ _) ?_; conv => whnf)
            | fail)
          exact ⟨PLe.of_eq (congrArg Bo hn.symm)⟩
        · have hne : decide ((⟨(c :: l).toArray⟩ : ByteArray) ≠ ⟨#[]⟩) = true := decide_eq_true (fun e => by injection e with e; simp at e)
          have heq : ∀ w, (binOp .neq 9 (.string ⟨(c :: l).toArray⟩) (.string ⟨#[]⟩)).run (C m).P w = .ok (.bool true) w := fun w => by
            have := neq_string (m := m) 9 ⟨(c :: l).toArray⟩ ⟨#[]⟩ w
            rw [hne] at this
            exact this
          have hz : nameB ⟨(c :: l).toArray⟩ = decide ((c :: l).length ≤ 24) := by rw [hn, decide_eq_true (by simp)]; rfl
          have hbs' : (((⟨(c :: l).toArray⟩ : ByteArray).size : Nat) : Int) = ((c :: l).length : Int) := by rw [hbs]
          conv => whnf
          repeat' (first
            | (rw [hbs']; conv => whnf)
            | (refine SBool.mk (fun _ => ?_) (fun h => absurd (of_decide_eq_true rfl) h); conv => whnf)
            | (refine SBool.mk (fun h => ?_) (fun h => ?_) <;> conv => whnf)
            | (refine SEx.mk _ (by first | exact heq) ?_; conv => whnf)
            | fail)
          · exact ⟨PLe.of_eq (congrArg Bo (by rw [hz, decide_eq_true (by omega)]))⟩
          · exact ⟨PLe.of_eq (congrArg Bo (by rw [hz, decide_eq_false (by omega)]))⟩
end Go.Proofs.Ab.Area
end
section
/- Lists of things with names. -/
set_option maxRecDepth 100000
set_option linter.unusedVariables false
set_option linter.unusedSimpArgs false
namespace Go.Proofs.Ab.Area
open Go Go.RowKit Go.Proofs.Ab
theorem mpGet_known (l : List ByteArray) (s : ByteArray) : (mpGet (l.map fun s => (s, Value.bool true)) s).getD (.bool false) = .bool (knownB l s) := by
  induction l with
  | nil => rfl
  | cons k l ih =>
    unfold knownB at *
    rw [List.map_cons, List.any_cons]
    unfold mpGet
    by_cases h : s = k
    · rw [if_pos h, decide_eq_true h.symm]; rfl
    · rw [if_neg h, ih, decide_eq_false (fun e => h e.symm)]; rfl
theorem mpPut_new {l : List ByteArray} {s : ByteArray} (h : knownB l s = false) : mpPut (l.map fun s => (s, Value.bool true)) s (.bool true) = (l.map fun s => (s, Value.bool true)) ++ [(s, .bool true)] := by
  induction l with
  | nil => rfl
  | cons k l ih =>
    unfold knownB at *
    rw [List.any_cons, Bool.or_eq_false_iff] at h
    have h1 : ¬ s = k := fun e => by simp [e] at h
    rw [List.map_cons]
    unfold mpPut
    rw [if_neg h1, ih h.2]
    rfl
theorem firstOf_three {a b : Int} (c : Int) (h : firstOf [a, b, c] = 0) : a = 0 ∧ b = 0 := by
  rw [firstOf_zero, firstOf_zero] at h
  exact ⟨h.1, h.2.1⟩
theorem named114 {m : Int} (nm : Hd → ByteArray) (er : Hd → Int) (gn gc : FuncId) (xs : List Hd) (most : Int) (hl : xs.length ≤ 1000000) (hn : ∀ x ∈ xs, APure (C m) gn [.agg (hc x)] (St (nm x))) (hr : xs.length ≤ most → ∀ x ∈ xs, APure (C m) gc [.agg (hc x)] (I (er x))) :
    APure (C m) 114 [.seq 3 (xs.map hc), I most, .fn gn [], .fn gc []] (I (namedE most (xs.map fun x => (nm x, er x)))) := by
  have hlen : (((xs.map hc).length : Nat) : Int) = xs.length := by simp
  have hbig : most < xs.length → namedE most (xs.map fun x => (nm x, er x)) = 5 := fun h => by
    unfold namedE
    rw [List.length_map, if_pos h]
  have hsml : ¬ most < xs.length → namedE most (xs.map fun x => (nm x, er x)) = namedF [] (xs.map fun x => (nm x, er x)) := fun h => by
    unfold namedE
    rw [List.length_map, if_neg h]
  by_cases hE : most < (xs.length : Int)
  · rw [hbig hE]
    refine APure.of_body good [] (fn := Tryz.f114) (by kernel_rfl) (by kernel_rfl) rfl rfl (by kernel_rfl) rfl (by kernel_rfl) ?_
    conv => whnf
    repeat' (first
      | (rw [hlen]; conv => whnf)
      | (refine SBool.mk (fun h => ?_) (fun h => ?_) <;> conv => whnf)
      | (refine SAll.mk (fun _ => ?_); conv => whnf)
      | fail)
    · exact ⟨PLe.refl _⟩
    · exact absurd hE (by assumption)
  · rw [hsml hE]
    have hr := hr (by omega)
    clear hbig hsml
    obtain ⟨V, hV⟩ : ∃ V, V = namedF [] (xs.map fun x => (nm x, er x)) := ⟨_, rfl⟩
    rw [← hV]
    refine APure.of_body good [] (fn := Tryz.f114) (by kernel_rfl) (by kernel_rfl) rfl rfl (by kernel_rfl) rfl (by kernel_rfl) ?_
    conv => whnf
    repeat' (first
      | (rw [hlen]; conv => whnf)
      | (refine SBool.mk (fun h => ?_) (fun h => ?_) <;> conv => whnf)
      | (refine SAll.mk (fun _ => ?_); conv => whnf)
      | fail)
    · exact absurd (by assumption) hE
    · rename_i g
      refine ⟨AWp.loop (ι := { k : Nat // k ≤ xs.length ∧ V = namedF ((xs.take k).map nm) ((xs.drop k).map fun x => (nm x, er x)) }) (fun k => ⟨[(21, .p (I k.1)), (20, .p (I xs.length)), (19, .p (.seq 3 (xs.map hc))), (9, .p (.v (.map (some g)))), (2, .p (.fn gn [])), (3, .p (.fn gc []))], [], [], 1, [], [(0, .mp g (((xs.take k.1).map nm).map fun s => (s, Value.bool true)))], []⟩) (fun k => xs.length - k.1) ⟨0, by simp, by simpa using hV⟩ ?_ ?_⟩
      · skip
        · refine SLe.ofO [] [] [(0, 0)] rfl rfl rfl ?_
          conv => whnf
          repeat' (first
          | exact True.intro
          | (refine SAnd.mk (PLe.refl _) ?_; conv => whnf)
          | (refine SAnd.mk ⟨rfl, rfl⟩ ?_; conv => whnf))
      · rintro ⟨k, hk, he⟩
        refine codeK_sound good (mu := []) ?_
        conv => whnf
        refine SBool.mk (fun hcn => ?_) (fun hcn => ?_)
        · have hkl : k < xs.length := by simpa using hcn
          have hname := hn xs[k] (List.getElem_mem hkl)
          have hcheck := hr xs[k] (List.getElem_mem hkl)
          have hsome : 0 ≤ (k : Int) ∧ (xs.map hc)[((k : Int)).toNat]? = some (hc xs[k]) := ⟨by omega, by show (xs.map hc)[k]? = _; simp [hkl]⟩
          have wk : wrapK IntKind.i64 ((k : Int) + 1) = k + 1 := w64 (by omega)
          have hin := IsName_pure (m := m) (nm xs[k])
          have hlook := mpGet_known ((xs.take k).map nm) (nm xs[k])
          have hput := mpPut_new (l := (xs.take k).map nm) (s := nm xs[k])
          have hstep : namedF ((xs.take k).map nm) ((xs.drop k).map fun x => (nm x, er x)) = if firstOf [if nameB (nm xs[k]) then 0 else 8, if knownB ((xs.take k).map nm) (nm xs[k]) then 9 else 0, er xs[k]] = 0 then namedF ((xs.take (k + 1)).map nm) ((xs.drop (k + 1)).map fun x => (nm x, er x)) else firstOf [if nameB (nm xs[k]) then 0 else 8, if knownB ((xs.take k).map nm) (nm xs[k]) then 9 else 0, er xs[k]] := by
            rw [List.drop_eq_getElem_cons hkl, take_map_succ hkl]
            rfl
          have hnx : ∀ es, knownB ((xs.take k).map nm) (nm xs[k]) = false → es = mpPut (((xs.take k).map nm).map fun s => (s, Value.bool true)) (nm xs[k]) (.bool true) → es = ((xs.take (k + 1)).map nm).map fun s => (s, Value.bool true) := fun es h1 h2 => by
            rw [h2, hput h1, take_map_succ hkl, List.map_append]
            rfl
          generalize hnb : nameB (nm xs[k]) = b1 at *
          generalize hkb : knownB ((xs.take k).map nm) (nm xs[k]) = b2 at *
          conv => whnf
          cases b1 <;> cases b2
          all_goals
            conv => whnf
            repeat' (first
              | (rw [wk]; conv => whnf)
              | (refine SBool.mk (fun _ => ?_) (fun h => absurd (of_decide_eq_true rfl) h); conv => whnf)
              | (refine SBool.mk (fun h => absurd h (of_decide_eq_false rfl)) (fun _ => ?_); conv => whnf)
              | (refine SBool.mk (fun h => ?_) (fun h => ?_) <;> conv => whnf)
              | (refine SEx.mk _ (by first | exact hsome | exact hname | exact hin | exact hcheck | exact hlook | exact when_pure _ _ | exact first3_pure _ _ _ | exact (fun w => Tryz.zeroValue4 w)) ?_; conv => whnf)
              | (refine SAnd.mk (by first | exact rfl | kernel_rfl | omega | decide | exact hsome | exact hname | exact hin | exact hcheck | exact hlook | exact when_pure _ _ | exact first3_pure _ _ _ | exact (fun w => Tryz.zeroValue4 w)) ?_; conv => whnf)
              | fail)
            all_goals first
              | exact absurd (by assumption) (by decide)
              | exact ⟨PLe.of_eq (congrArg I (by rw [he, hstep]; exact (if_neg (by assumption)).symm))⟩
              | skip
          all_goals
            have hz3 := firstOf_three (er xs[k]) (by assumption)
            first
              | exact absurd hz3.1 (by decide)
              | exact absurd hz3.2 (by decide)
              | skip
          all_goals
            refine ⟨⟨k + 1, hkl, by rw [he, hstep, if_pos (by assumption)]⟩, by simp only; omega, ?_⟩
            skip
            · refine SLe.ofO [] [] [(0, 0)] rfl rfl rfl ?_
              conv => whnf
              repeat' (first
              | exact True.intro
              | (refine SAnd.mk (⟨rfl, hnx _ rfl rfl⟩) ?_; conv => whnf)
              | (refine SAnd.mk (PLe.refl _) ?_; conv => whnf))
        · have : k = xs.length := by simp at hcn; omega
          subst this
          conv => whnf
          repeat' (first
            | fail)
          exact ⟨PLe.of_eq (congrArg I (by rw [he]; simp [namedF]))⟩
end Go.Proofs.Ab.Area
end
section
/- The errors of areas, landings, moves, holds and flights. -/
set_option maxRecDepth 100000
set_option linter.unusedVariables false
set_option linter.unusedSimpArgs false
namespace Go.Proofs.Ab.Area
open Go Go.RowKit Go.Proofs.Ab
theorem named122 {m : Int} (nm : Ar → ByteArray) (er : Ar → Int) (gn gc : FuncId) (xs : List Ar) (most : Int) (hl : xs.length ≤ 1000000) (hn : ∀ x ∈ xs, APure (C m) gn [.agg (ac x)] (St (nm x))) (hr : xs.length ≤ most → ∀ x ∈ xs, APure (C m) gc [.agg (ac x)] (I (er x))) :
    APure (C m) 122 [.seq 4 (xs.map ac), I most, .fn gn [], .fn gc []] (I (namedE most (xs.map fun x => (nm x, er x)))) := by
  have hlen : (((xs.map ac).length : Nat) : Int) = xs.length := by simp
  have hbig : most < xs.length → namedE most (xs.map fun x => (nm x, er x)) = 5 := fun h => by
    unfold namedE
    rw [List.length_map, if_pos h]
  have hsml : ¬ most < xs.length → namedE most (xs.map fun x => (nm x, er x)) = namedF [] (xs.map fun x => (nm x, er x)) := fun h => by
    unfold namedE
    rw [List.length_map, if_neg h]
  by_cases hE : most < (xs.length : Int)
  · rw [hbig hE]
    refine APure.of_body good [] (fn := Tryz.f122) (by kernel_rfl) (by kernel_rfl) rfl rfl (by kernel_rfl) rfl (by kernel_rfl) ?_
    conv => whnf
    repeat' (first
      | (rw [hlen]; conv => whnf)
      | (refine SBool.mk (fun h => ?_) (fun h => ?_) <;> conv => whnf)
      | (refine SAll.mk (fun _ => ?_); conv => whnf)
      | fail)
    · exact ⟨PLe.refl _⟩
    · exact absurd hE (by assumption)
  · rw [hsml hE]
    have hr := hr (by omega)
    clear hbig hsml
    obtain ⟨V, hV⟩ : ∃ V, V = namedF [] (xs.map fun x => (nm x, er x)) := ⟨_, rfl⟩
    rw [← hV]
    refine APure.of_body good [] (fn := Tryz.f122) (by kernel_rfl) (by kernel_rfl) rfl rfl (by kernel_rfl) rfl (by kernel_rfl) ?_
    conv => whnf
    repeat' (first
      | (rw [hlen]; conv => whnf)
      | (refine SBool.mk (fun h => ?_) (fun h => ?_) <;> conv => whnf)
      | (refine SAll.mk (fun _ => ?_); conv => whnf)
      | fail)
    · exact absurd (by assumption) hE
    · rename_i g
      refine ⟨AWp.loop (ι := { k : Nat // k ≤ xs.length ∧ V = namedF ((xs.take k).map nm) ((xs.drop k).map fun x => (nm x, er x)) }) (fun k => ⟨[(21, .p (I k.1)), (20, .p (I xs.length)), (19, .p (.seq 4 (xs.map ac))), (9, .p (.v (.map (some g)))), (2, .p (.fn gn [])), (3, .p (.fn gc []))], [], [], 1, [], [(0, .mp g (((xs.take k.1).map nm).map fun s => (s, Value.bool true)))], []⟩) (fun k => xs.length - k.1) ⟨0, by simp, by simpa using hV⟩ ?_ ?_⟩
      · skip
        · refine SLe.ofO [] [] [(0, 0)] rfl rfl rfl ?_
          conv => whnf
          repeat' (first
          | exact True.intro
          | (refine SAnd.mk (PLe.refl _) ?_; conv => whnf)
          | (refine SAnd.mk ⟨rfl, rfl⟩ ?_; conv => whnf))
      · rintro ⟨k, hk, he⟩
        refine codeK_sound good (mu := []) ?_
        conv => whnf
        refine SBool.mk (fun hcn => ?_) (fun hcn => ?_)
        · have hkl : k < xs.length := by simpa using hcn
          have hname := hn xs[k] (List.getElem_mem hkl)
          have hcheck := hr xs[k] (List.getElem_mem hkl)
          have hsome : 0 ≤ (k : Int) ∧ (xs.map ac)[((k : Int)).toNat]? = some (ac xs[k]) := ⟨by omega, by show (xs.map ac)[k]? = _; simp [hkl]⟩
          have wk : wrapK IntKind.i64 ((k : Int) + 1) = k + 1 := w64 (by omega)
          have hin := IsName_pure (m := m) (nm xs[k])
          have hlook := mpGet_known ((xs.take k).map nm) (nm xs[k])
          have hput := mpPut_new (l := (xs.take k).map nm) (s := nm xs[k])
          have hstep : namedF ((xs.take k).map nm) ((xs.drop k).map fun x => (nm x, er x)) = if firstOf [if nameB (nm xs[k]) then 0 else 8, if knownB ((xs.take k).map nm) (nm xs[k]) then 9 else 0, er xs[k]] = 0 then namedF ((xs.take (k + 1)).map nm) ((xs.drop (k + 1)).map fun x => (nm x, er x)) else firstOf [if nameB (nm xs[k]) then 0 else 8, if knownB ((xs.take k).map nm) (nm xs[k]) then 9 else 0, er xs[k]] := by
            rw [List.drop_eq_getElem_cons hkl, take_map_succ hkl]
            rfl
          have hnx : ∀ es, knownB ((xs.take k).map nm) (nm xs[k]) = false → es = mpPut (((xs.take k).map nm).map fun s => (s, Value.bool true)) (nm xs[k]) (.bool true) → es = ((xs.take (k + 1)).map nm).map fun s => (s, Value.bool true) := fun es h1 h2 => by
            rw [h2, hput h1, take_map_succ hkl, List.map_append]
            rfl
          generalize hnb : nameB (nm xs[k]) = b1 at *
          generalize hkb : knownB ((xs.take k).map nm) (nm xs[k]) = b2 at *
          conv => whnf
          cases b1 <;> cases b2
          all_goals
            conv => whnf
            repeat' (first
              | (rw [wk]; conv => whnf)
              | (refine SBool.mk (fun _ => ?_) (fun h => absurd (of_decide_eq_true rfl) h); conv => whnf)
              | (refine SBool.mk (fun h => absurd h (of_decide_eq_false rfl)) (fun _ => ?_); conv => whnf)
              | (refine SBool.mk (fun h => ?_) (fun h => ?_) <;> conv => whnf)
              | (refine SEx.mk _ (by first | exact hsome | exact hname | exact hin | exact hcheck | exact hlook | exact when_pure _ _ | exact first3_pure _ _ _ | exact (fun w => Tryz.zeroValue4 w)) ?_; conv => whnf)
              | (refine SAnd.mk (by first | exact rfl | kernel_rfl | omega | decide | exact hsome | exact hname | exact hin | exact hcheck | exact hlook | exact when_pure _ _ | exact first3_pure _ _ _ | exact (fun w => Tryz.zeroValue4 w)) ?_; conv => whnf)
              | fail)
            all_goals first
              | exact absurd (by assumption) (by decide)
              | exact ⟨PLe.of_eq (congrArg I (by rw [he, hstep]; exact (if_neg (by assumption)).symm))⟩
              | skip
          all_goals
            have hz3 := firstOf_three (er xs[k]) (by assumption)
            first
              | exact absurd hz3.1 (by decide)
              | exact absurd hz3.2 (by decide)
              | skip
          all_goals
            refine ⟨⟨k + 1, hkl, by rw [he, hstep, if_pos (by assumption)]⟩, by simp only; omega, ?_⟩
            skip
            · refine SLe.ofO [] [] [(0, 0)] rfl rfl rfl ?_
              conv => whnf
              repeat' (first
              | exact True.intro
              | (refine SAnd.mk (⟨rfl, hnx _ rfl rfl⟩) ?_; conv => whnf)
              | (refine SAnd.mk (PLe.refl _) ?_; conv => whnf))
        · have : k = xs.length := by simp at hcn; omega
          subst this
          conv => whnf
          repeat' (first
            | fail)
          exact ⟨PLe.of_eq (congrArg I (by rw [he]; simp [namedF]))⟩
theorem named132 {m : Int} (nm : Ld → ByteArray) (er : Ld → Int) (gn gc : FuncId) (xs : List Ld) (most : Int) (hl : xs.length ≤ 1000000) (hn : ∀ x ∈ xs, APure (C m) gn [.agg (lc x)] (St (nm x))) (hr : xs.length ≤ most → ∀ x ∈ xs, APure (C m) gc [.agg (lc x)] (I (er x))) :
    APure (C m) 132 [.seq 4 (xs.map lc), I most, .fn gn [], .fn gc []] (I (namedE most (xs.map fun x => (nm x, er x)))) := by
  have hlen : (((xs.map lc).length : Nat) : Int) = xs.length := by simp
  have hbig : most < xs.length → namedE most (xs.map fun x => (nm x, er x)) = 5 := fun h => by
    unfold namedE
    rw [List.length_map, if_pos h]
  have hsml : ¬ most < xs.length → namedE most (xs.map fun x => (nm x, er x)) = namedF [] (xs.map fun x => (nm x, er x)) := fun h => by
    unfold namedE
    rw [List.length_map, if_neg h]
  by_cases hE : most < (xs.length : Int)
  · rw [hbig hE]
    refine APure.of_body good [] (fn := Tryz.f132) (by kernel_rfl) (by kernel_rfl) rfl rfl (by kernel_rfl) rfl (by kernel_rfl) ?_
    conv => whnf
    repeat' (first
      | (rw [hlen]; conv => whnf)
      | (refine SBool.mk (fun h => ?_) (fun h => ?_) <;> conv => whnf)
      | (refine SAll.mk (fun _ => ?_); conv => whnf)
      | fail)
    · exact ⟨PLe.refl _⟩
    · exact absurd hE (by assumption)
  · rw [hsml hE]
    have hr := hr (by omega)
    clear hbig hsml
    obtain ⟨V, hV⟩ : ∃ V, V = namedF [] (xs.map fun x => (nm x, er x)) := ⟨_, rfl⟩
    rw [← hV]
    refine APure.of_body good [] (fn := Tryz.f132) (by kernel_rfl) (by kernel_rfl) rfl rfl (by kernel_rfl) rfl (by kernel_rfl) ?_
    conv => whnf
    repeat' (first
      | (rw [hlen]; conv => whnf)
      | (refine SBool.mk (fun h => ?_) (fun h => ?_) <;> conv => whnf)
      | (refine SAll.mk (fun _ => ?_); conv => whnf)
      | fail)
    · exact absurd (by assumption) hE
    · rename_i g
      refine ⟨AWp.loop (ι := { k : Nat // k ≤ xs.length ∧ V = namedF ((xs.take k).map nm) ((xs.drop k).map fun x => (nm x, er x)) }) (fun k => ⟨[(21, .p (I k.1)), (20, .p (I xs.length)), (19, .p (.seq 4 (xs.map lc))), (9, .p (.v (.map (some g)))), (2, .p (.fn gn [])), (3, .p (.fn gc []))], [], [], 1, [], [(0, .mp g (((xs.take k.1).map nm).map fun s => (s, Value.bool true)))], []⟩) (fun k => xs.length - k.1) ⟨0, by simp, by simpa using hV⟩ ?_ ?_⟩
      · skip
        · refine SLe.ofO [] [] [(0, 0)] rfl rfl rfl ?_
          conv => whnf
          repeat' (first
          | exact True.intro
          | (refine SAnd.mk (PLe.refl _) ?_; conv => whnf)
          | (refine SAnd.mk ⟨rfl, rfl⟩ ?_; conv => whnf))
      · rintro ⟨k, hk, he⟩
        refine codeK_sound good (mu := []) ?_
        conv => whnf
        refine SBool.mk (fun hcn => ?_) (fun hcn => ?_)
        · have hkl : k < xs.length := by simpa using hcn
          have hname := hn xs[k] (List.getElem_mem hkl)
          have hcheck := hr xs[k] (List.getElem_mem hkl)
          have hsome : 0 ≤ (k : Int) ∧ (xs.map lc)[((k : Int)).toNat]? = some (lc xs[k]) := ⟨by omega, by show (xs.map lc)[k]? = _; simp [hkl]⟩
          have wk : wrapK IntKind.i64 ((k : Int) + 1) = k + 1 := w64 (by omega)
          have hin := IsName_pure (m := m) (nm xs[k])
          have hlook := mpGet_known ((xs.take k).map nm) (nm xs[k])
          have hput := mpPut_new (l := (xs.take k).map nm) (s := nm xs[k])
          have hstep : namedF ((xs.take k).map nm) ((xs.drop k).map fun x => (nm x, er x)) = if firstOf [if nameB (nm xs[k]) then 0 else 8, if knownB ((xs.take k).map nm) (nm xs[k]) then 9 else 0, er xs[k]] = 0 then namedF ((xs.take (k + 1)).map nm) ((xs.drop (k + 1)).map fun x => (nm x, er x)) else firstOf [if nameB (nm xs[k]) then 0 else 8, if knownB ((xs.take k).map nm) (nm xs[k]) then 9 else 0, er xs[k]] := by
            rw [List.drop_eq_getElem_cons hkl, take_map_succ hkl]
            rfl
          have hnx : ∀ es, knownB ((xs.take k).map nm) (nm xs[k]) = false → es = mpPut (((xs.take k).map nm).map fun s => (s, Value.bool true)) (nm xs[k]) (.bool true) → es = ((xs.take (k + 1)).map nm).map fun s => (s, Value.bool true) := fun es h1 h2 => by
            rw [h2, hput h1, take_map_succ hkl, List.map_append]
            rfl
          generalize hnb : nameB (nm xs[k]) = b1 at *
          generalize hkb : knownB ((xs.take k).map nm) (nm xs[k]) = b2 at *
          conv => whnf
          cases b1 <;> cases b2
          all_goals
            conv => whnf
            repeat' (first
              | (rw [wk]; conv => whnf)
              | (refine SBool.mk (fun _ => ?_) (fun h => absurd (of_decide_eq_true rfl) h); conv => whnf)
              | (refine SBool.mk (fun h => absurd h (of_decide_eq_false rfl)) (fun _ => ?_); conv => whnf)
              | (refine SBool.mk (fun h => ?_) (fun h => ?_) <;> conv => whnf)
              | (refine SEx.mk _ (by first | exact hsome | exact hname | exact hin | exact hcheck | exact hlook | exact when_pure _ _ | exact first3_pure _ _ _ | exact (fun w => Tryz.zeroValue4 w)) ?_; conv => whnf)
              | (refine SAnd.mk (by first | exact rfl | kernel_rfl | omega | decide | exact hsome | exact hname | exact hin | exact hcheck | exact hlook | exact when_pure _ _ | exact first3_pure _ _ _ | exact (fun w => Tryz.zeroValue4 w)) ?_; conv => whnf)
              | fail)
            all_goals first
              | exact absurd (by assumption) (by decide)
              | exact ⟨PLe.of_eq (congrArg I (by rw [he, hstep]; exact (if_neg (by assumption)).symm))⟩
              | skip
          all_goals
            have hz3 := firstOf_three (er xs[k]) (by assumption)
            first
              | exact absurd hz3.1 (by decide)
              | exact absurd hz3.2 (by decide)
              | skip
          all_goals
            refine ⟨⟨k + 1, hkl, by rw [he, hstep, if_pos (by assumption)]⟩, by simp only; omega, ?_⟩
            skip
            · refine SLe.ofO [] [] [(0, 0)] rfl rfl rfl ?_
              conv => whnf
              repeat' (first
              | exact True.intro
              | (refine SAnd.mk (⟨rfl, hnx _ rfl rfl⟩) ?_; conv => whnf)
              | (refine SAnd.mk (PLe.refl _) ?_; conv => whnf))
        · have : k = xs.length := by simp at hcn; omega
          subst this
          conv => whnf
          repeat' (first
            | fail)
          exact ⟨PLe.of_eq (congrArg I (by rw [he]; simp [namedF]))⟩
theorem named135 {m : Int} (nm : Mv → ByteArray) (er : Mv → Int) (gn gc : FuncId) (xs : List Mv) (most : Int) (hl : xs.length ≤ 1000000) (hn : ∀ x ∈ xs, APure (C m) gn [.agg (mc x)] (St (nm x))) (hr : xs.length ≤ most → ∀ x ∈ xs, APure (C m) gc [.agg (mc x)] (I (er x))) :
    APure (C m) 135 [.seq 8 (xs.map mc), I most, .fn gn [], .fn gc []] (I (namedE most (xs.map fun x => (nm x, er x)))) := by
  have hlen : (((xs.map mc).length : Nat) : Int) = xs.length := by simp
  have hbig : most < xs.length → namedE most (xs.map fun x => (nm x, er x)) = 5 := fun h => by
    unfold namedE
    rw [List.length_map, if_pos h]
  have hsml : ¬ most < xs.length → namedE most (xs.map fun x => (nm x, er x)) = namedF [] (xs.map fun x => (nm x, er x)) := fun h => by
    unfold namedE
    rw [List.length_map, if_neg h]
  by_cases hE : most < (xs.length : Int)
  · rw [hbig hE]
    refine APure.of_body good [] (fn := Tryz.f135) (by kernel_rfl) (by kernel_rfl) rfl rfl (by kernel_rfl) rfl (by kernel_rfl) ?_
    conv => whnf
    repeat' (first
      | (rw [hlen]; conv => whnf)
      | (refine SBool.mk (fun h => ?_) (fun h => ?_) <;> conv => whnf)
      | (refine SAll.mk (fun _ => ?_); conv => whnf)
      | fail)
    · exact ⟨PLe.refl _⟩
    · exact absurd hE (by assumption)
  · rw [hsml hE]
    have hr := hr (by omega)
    clear hbig hsml
    obtain ⟨V, hV⟩ : ∃ V, V = namedF [] (xs.map fun x => (nm x, er x)) := ⟨_, rfl⟩
    rw [← hV]
    refine APure.of_body good [] (fn := Tryz.f135) (by kernel_rfl) (by kernel_rfl) rfl rfl (by kernel_rfl) rfl (by kernel_rfl) ?_
    conv => whnf
    repeat' (first
      | (rw [hlen]; conv => whnf)
      | (refine SBool.mk (fun h => ?_) (fun h => ?_) <;> conv => whnf)
      | (refine SAll.mk (fun _ => ?_); conv => whnf)
      | fail)
    · exact absurd (by assumption) hE
    · rename_i g
      refine ⟨AWp.loop (ι := { k : Nat // k ≤ xs.length ∧ V = namedF ((xs.take k).map nm) ((xs.drop k).map fun x => (nm x, er x)) }) (fun k => ⟨[(21, .p (I k.1)), (20, .p (I xs.length)), (19, .p (.seq 8 (xs.map mc))), (9, .p (.v (.map (some g)))), (2, .p (.fn gn [])), (3, .p (.fn gc []))], [], [], 1, [], [(0, .mp g (((xs.take k.1).map nm).map fun s => (s, Value.bool true)))], []⟩) (fun k => xs.length - k.1) ⟨0, by simp, by simpa using hV⟩ ?_ ?_⟩
      · skip
        · refine SLe.ofO [] [] [(0, 0)] rfl rfl rfl ?_
          conv => whnf
          repeat' (first
          | exact True.intro
          | (refine SAnd.mk (PLe.refl _) ?_; conv => whnf)
          | (refine SAnd.mk ⟨rfl, rfl⟩ ?_; conv => whnf))
      · rintro ⟨k, hk, he⟩
        refine codeK_sound good (mu := []) ?_
        conv => whnf
        refine SBool.mk (fun hcn => ?_) (fun hcn => ?_)
        · have hkl : k < xs.length := by simpa using hcn
          have hname := hn xs[k] (List.getElem_mem hkl)
          have hcheck := hr xs[k] (List.getElem_mem hkl)
          have hsome : 0 ≤ (k : Int) ∧ (xs.map mc)[((k : Int)).toNat]? = some (mc xs[k]) := ⟨by omega, by show (xs.map mc)[k]? = _; simp [hkl]⟩
          have wk : wrapK IntKind.i64 ((k : Int) + 1) = k + 1 := w64 (by omega)
          have hin := IsName_pure (m := m) (nm xs[k])
          have hlook := mpGet_known ((xs.take k).map nm) (nm xs[k])
          have hput := mpPut_new (l := (xs.take k).map nm) (s := nm xs[k])
          have hstep : namedF ((xs.take k).map nm) ((xs.drop k).map fun x => (nm x, er x)) = if firstOf [if nameB (nm xs[k]) then 0 else 8, if knownB ((xs.take k).map nm) (nm xs[k]) then 9 else 0, er xs[k]] = 0 then namedF ((xs.take (k + 1)).map nm) ((xs.drop (k + 1)).map fun x => (nm x, er x)) else firstOf [if nameB (nm xs[k]) then 0 else 8, if knownB ((xs.take k).map nm) (nm xs[k]) then 9 else 0, er xs[k]] := by
            rw [List.drop_eq_getElem_cons hkl, take_map_succ hkl]
            rfl
          have hnx : ∀ es, knownB ((xs.take k).map nm) (nm xs[k]) = false → es = mpPut (((xs.take k).map nm).map fun s => (s, Value.bool true)) (nm xs[k]) (.bool true) → es = ((xs.take (k + 1)).map nm).map fun s => (s, Value.bool true) := fun es h1 h2 => by
            rw [h2, hput h1, take_map_succ hkl, List.map_append]
            rfl
          generalize hnb : nameB (nm xs[k]) = b1 at *
          generalize hkb : knownB ((xs.take k).map nm) (nm xs[k]) = b2 at *
          conv => whnf
          cases b1 <;> cases b2
          all_goals
            conv => whnf
            repeat' (first
              | (rw [wk]; conv => whnf)
              | (refine SBool.mk (fun _ => ?_) (fun h => absurd (of_decide_eq_true rfl) h); conv => whnf)
              | (refine SBool.mk (fun h => absurd h (of_decide_eq_false rfl)) (fun _ => ?_); conv => whnf)
              | (refine SBool.mk (fun h => ?_) (fun h => ?_) <;> conv => whnf)
              | (refine SEx.mk _ (by first | exact hsome | exact hname | exact hin | exact hcheck | exact hlook | exact when_pure _ _ | exact first3_pure _ _ _ | exact (fun w => Tryz.zeroValue4 w)) ?_; conv => whnf)
              | (refine SAnd.mk (by first | exact rfl | kernel_rfl | omega | decide | exact hsome | exact hname | exact hin | exact hcheck | exact hlook | exact when_pure _ _ | exact first3_pure _ _ _ | exact (fun w => Tryz.zeroValue4 w)) ?_; conv => whnf)
              | fail)
            all_goals first
              | exact absurd (by assumption) (by decide)
              | exact ⟨PLe.of_eq (congrArg I (by rw [he, hstep]; exact (if_neg (by assumption)).symm))⟩
              | skip
          all_goals
            have hz3 := firstOf_three (er xs[k]) (by assumption)
            first
              | exact absurd hz3.1 (by decide)
              | exact absurd hz3.2 (by decide)
              | skip
          all_goals
            refine ⟨⟨k + 1, hkl, by rw [he, hstep, if_pos (by assumption)]⟩, by simp only; omega, ?_⟩
            skip
            · refine SLe.ofO [] [] [(0, 0)] rfl rfl rfl ?_
              conv => whnf
              repeat' (first
              | exact True.intro
              | (refine SAnd.mk (⟨rfl, hnx _ rfl rfl⟩) ?_; conv => whnf)
              | (refine SAnd.mk (PLe.refl _) ?_; conv => whnf))
        · have : k = xs.length := by simp at hcn; omega
          subst this
          conv => whnf
          repeat' (first
            | fail)
          exact ⟨PLe.of_eq (congrArg I (by rw [he]; simp [namedF]))⟩
theorem named146 {m : Int} (nm : Fg → ByteArray) (er : Fg → Int) (gn gc : FuncId) (xs : List Fg) (most : Int) (hl : xs.length ≤ 1000000) (hn : ∀ x ∈ xs, APure (C m) gn [.agg (fc x)] (St (nm x))) (hr : xs.length ≤ most → ∀ x ∈ xs, APure (C m) gc [.agg (fc x)] (I (er x))) :
    APure (C m) 146 [.seq 3 (xs.map fc), I most, .fn gn [], .fn gc []] (I (namedE most (xs.map fun x => (nm x, er x)))) := by
  have hlen : (((xs.map fc).length : Nat) : Int) = xs.length := by simp
  have hbig : most < xs.length → namedE most (xs.map fun x => (nm x, er x)) = 5 := fun h => by
    unfold namedE
    rw [List.length_map, if_pos h]
  have hsml : ¬ most < xs.length → namedE most (xs.map fun x => (nm x, er x)) = namedF [] (xs.map fun x => (nm x, er x)) := fun h => by
    unfold namedE
    rw [List.length_map, if_neg h]
  by_cases hE : most < (xs.length : Int)
  · rw [hbig hE]
    refine APure.of_body good [] (fn := Tryz.f146) (by kernel_rfl) (by kernel_rfl) rfl rfl (by kernel_rfl) rfl (by kernel_rfl) ?_
    conv => whnf
    repeat' (first
      | (rw [hlen]; conv => whnf)
      | (refine SBool.mk (fun h => ?_) (fun h => ?_) <;> conv => whnf)
      | (refine SAll.mk (fun _ => ?_); conv => whnf)
      | fail)
    · exact ⟨PLe.refl _⟩
    · exact absurd hE (by assumption)
  · rw [hsml hE]
    have hr := hr (by omega)
    clear hbig hsml
    obtain ⟨V, hV⟩ : ∃ V, V = namedF [] (xs.map fun x => (nm x, er x)) := ⟨_, rfl⟩
    rw [← hV]
    refine APure.of_body good [] (fn := Tryz.f146) (by kernel_rfl) (by kernel_rfl) rfl rfl (by kernel_rfl) rfl (by kernel_rfl) ?_
    conv => whnf
    repeat' (first
      | (rw [hlen]; conv => whnf)
      | (refine SBool.mk (fun h => ?_) (fun h => ?_) <;> conv => whnf)
      | (refine SAll.mk (fun _ => ?_); conv => whnf)
      | fail)
    · exact absurd (by assumption) hE
    · rename_i g
      refine ⟨AWp.loop (ι := { k : Nat // k ≤ xs.length ∧ V = namedF ((xs.take k).map nm) ((xs.drop k).map fun x => (nm x, er x)) }) (fun k => ⟨[(21, .p (I k.1)), (20, .p (I xs.length)), (19, .p (.seq 3 (xs.map fc))), (9, .p (.v (.map (some g)))), (2, .p (.fn gn [])), (3, .p (.fn gc []))], [], [], 1, [], [(0, .mp g (((xs.take k.1).map nm).map fun s => (s, Value.bool true)))], []⟩) (fun k => xs.length - k.1) ⟨0, by simp, by simpa using hV⟩ ?_ ?_⟩
      · skip
        · refine SLe.ofO [] [] [(0, 0)] rfl rfl rfl ?_
          conv => whnf
          repeat' (first
          | exact True.intro
          | (refine SAnd.mk (PLe.refl _) ?_; conv => whnf)
          | (refine SAnd.mk ⟨rfl, rfl⟩ ?_; conv => whnf))
      · rintro ⟨k, hk, he⟩
        refine codeK_sound good (mu := []) ?_
        conv => whnf
        refine SBool.mk (fun hcn => ?_) (fun hcn => ?_)
        · have hkl : k < xs.length := by simpa using hcn
          have hname := hn xs[k] (List.getElem_mem hkl)
          have hcheck := hr xs[k] (List.getElem_mem hkl)
          have hsome : 0 ≤ (k : Int) ∧ (xs.map fc)[((k : Int)).toNat]? = some (fc xs[k]) := ⟨by omega, by show (xs.map fc)[k]? = _; simp [hkl]⟩
          have wk : wrapK IntKind.i64 ((k : Int) + 1) = k + 1 := w64 (by omega)
          have hin := IsName_pure (m := m) (nm xs[k])
          have hlook := mpGet_known ((xs.take k).map nm) (nm xs[k])
          have hput := mpPut_new (l := (xs.take k).map nm) (s := nm xs[k])
          have hstep : namedF ((xs.take k).map nm) ((xs.drop k).map fun x => (nm x, er x)) = if firstOf [if nameB (nm xs[k]) then 0 else 8, if knownB ((xs.take k).map nm) (nm xs[k]) then 9 else 0, er xs[k]] = 0 then namedF ((xs.take (k + 1)).map nm) ((xs.drop (k + 1)).map fun x => (nm x, er x)) else firstOf [if nameB (nm xs[k]) then 0 else 8, if knownB ((xs.take k).map nm) (nm xs[k]) then 9 else 0, er xs[k]] := by
            rw [List.drop_eq_getElem_cons hkl, take_map_succ hkl]
            rfl
          have hnx : ∀ es, knownB ((xs.take k).map nm) (nm xs[k]) = false → es = mpPut (((xs.take k).map nm).map fun s => (s, Value.bool true)) (nm xs[k]) (.bool true) → es = ((xs.take (k + 1)).map nm).map fun s => (s, Value.bool true) := fun es h1 h2 => by
            rw [h2, hput h1, take_map_succ hkl, List.map_append]
            rfl
          generalize hnb : nameB (nm xs[k]) = b1 at *
          generalize hkb : knownB ((xs.take k).map nm) (nm xs[k]) = b2 at *
          conv => whnf
          cases b1 <;> cases b2
          all_goals
            conv => whnf
            repeat' (first
              | (rw [wk]; conv => whnf)
              | (refine SBool.mk (fun _ => ?_) (fun h => absurd (of_decide_eq_true rfl) h); conv => whnf)
              | (refine SBool.mk (fun h => absurd h (of_decide_eq_false rfl)) (fun _ => ?_); conv => whnf)
              | (refine SBool.mk (fun h => ?_) (fun h => ?_) <;> conv => whnf)
              | (refine SEx.mk _ (by first | exact hsome | exact hname | exact hin | exact hcheck | exact hlook | exact when_pure _ _ | exact first3_pure _ _ _ | exact (fun w => Tryz.zeroValue4 w)) ?_; conv => whnf)
              | (refine SAnd.mk (by first | exact rfl | kernel_rfl | omega | decide | exact hsome | exact hname | exact hin | exact hcheck | exact hlook | exact when_pure _ _ | exact first3_pure _ _ _ | exact (fun w => Tryz.zeroValue4 w)) ?_; conv => whnf)
              | fail)
            all_goals first
              | exact absurd (by assumption) (by decide)
              | exact ⟨PLe.of_eq (congrArg I (by rw [he, hstep]; exact (if_neg (by assumption)).symm))⟩
              | skip
          all_goals
            have hz3 := firstOf_three (er xs[k]) (by assumption)
            first
              | exact absurd hz3.1 (by decide)
              | exact absurd hz3.2 (by decide)
              | skip
          all_goals
            refine ⟨⟨k + 1, hkl, by rw [he, hstep, if_pos (by assumption)]⟩, by simp only; omega, ?_⟩
            skip
            · refine SLe.ofO [] [] [(0, 0)] rfl rfl rfl ?_
              conv => whnf
              repeat' (first
              | exact True.intro
              | (refine SAnd.mk (⟨rfl, hnx _ rfl rfl⟩) ?_; conv => whnf)
              | (refine SAnd.mk (PLe.refl _) ?_; conv => whnf))
        · have : k = xs.length := by simp at hcn; omega
          subst this
          conv => whnf
          repeat' (first
            | fail)
          exact ⟨PLe.of_eq (congrArg I (by rw [he]; simp [namedF]))⟩
theorem checkSize_pure {m : Int} (n : Int) : APure (C m) 110 [I n] (I (sizeE n)) := by
  refine APure.of_body good [] (fn := Tryz.f110) (by kernel_rfl) (by kernel_rfl) rfl rfl (by kernel_rfl) rfl (by kernel_rfl) ?_
  conv => whnf
  repeat' (first
    | (refine SEx.mk _ (by first | exact within_pure _ _ _) ?_; conv => whnf)
    | fail)
  exact ⟨PLe.refl _⟩
theorem checkCat_pure {m : Int} (n : Int) : APure (C m) 111 [I n] (I (catE n)) := by
  refine APure.of_body good [] (fn := Tryz.f111) (by kernel_rfl) (by kernel_rfl) rfl rfl (by kernel_rfl) rfl (by kernel_rfl) ?_
  conv => whnf
  repeat' (first
    | (refine SEx.mk _ (by first | exact within_pure _ _ _) ?_; conv => whnf)
    | fail)
  exact ⟨PLe.refl _⟩
theorem checkTicks_pure {m : Int} (x y : Int) : APure (C m) 186 [.agg [I x, I y]] (I (ticksE x y)) := by
  refine APure.of_body good [] (fn := Tryz.f186) (by kernel_rfl) (by kernel_rfl) rfl rfl (by kernel_rfl) rfl (by kernel_rfl) ?_
  conv => whnf
  repeat' (first
    | (refine SBool.mk (fun h => ?_) (fun h => ?_) <;> conv => whnf)
    | (refine SEx.mk _ (by first | exact when_pure _ _) ?_; conv => whnf)
    | fail)
  all_goals exact ⟨PLe.of_eq (congrArg I (by unfold ticksE; first | exact (if_pos (by omega)).symm | exact (if_neg (by omega)).symm))⟩
theorem label115 {m : Int} (h : Hd) : APure (C m) 115 [.agg (hc h)] (St h.name) := by
  refine APure.of_body good [] (fn := Tryz.f115) (by kernel_rfl) (by kernel_rfl) rfl rfl (by kernel_rfl) rfl (by kernel_rfl) ?_
  conv => whnf
  repeat' (first
    | fail)
  exact ⟨PLe.refl _⟩
theorem label123 {m : Int} (a : Ar) : APure (C m) 123 [.agg (ac a)] (St a.name) := by
  refine APure.of_body good [] (fn := Tryz.f123) (by kernel_rfl) (by kernel_rfl) rfl rfl (by kernel_rfl) rfl (by kernel_rfl) ?_
  conv => whnf
  repeat' (first
    | fail)
  exact ⟨PLe.refl _⟩
theorem label133 {m : Int} (l : Ld) : APure (C m) 133 [.agg (lc l)] (St l.name) := by
  refine APure.of_body good [] (fn := Tryz.f133) (by kernel_rfl) (by kernel_rfl) rfl rfl (by kernel_rfl) rfl (by kernel_rfl) ?_
  conv => whnf
  repeat' (first
    | fail)
  exact ⟨PLe.refl _⟩
theorem label136 {m : Int} (x : Mv) : APure (C m) 136 [.agg (mc x)] (St x.name) := by
  refine APure.of_body good [] (fn := Tryz.f136) (by kernel_rfl) (by kernel_rfl) rfl rfl (by kernel_rfl) rfl (by kernel_rfl) ?_
  conv => whnf
  repeat' (first
    | fail)
  exact ⟨PLe.refl _⟩
theorem label147 {m : Int} (f : Fg) : APure (C m) 147 [.agg (fc f)] (St f.name) := by
  refine APure.of_body good [] (fn := Tryz.f147) (by kernel_rfl) (by kernel_rfl) rfl rfl (by kernel_rfl) rfl (by kernel_rfl) ?_
  conv => whnf
  repeat' (first
    | fail)
  exact ⟨PLe.refl _⟩
theorem holdCheck_pure {m : Int} (h : Hd) : APure (C m) 116 [.agg (hc h)] (I (ptE h.at_)) := by
  refine APure.of_body good [] (fn := Tryz.f116) (by kernel_rfl) (by kernel_rfl) rfl rfl (by kernel_rfl) rfl (by kernel_rfl) ?_
  conv => whnf
  repeat' (first
    | (refine SEx.mk _ (by first | exact checkPoint_pure h.at_) ?_; conv => whnf)
    | fail)
  exact ⟨PLe.refl _⟩
theorem areaCheck_pure {m : Int} (a : Ar) (ha : a.poly.length ≤ 1000) : APure (C m) 124 [.agg (ac a)] (I (areaE a)) := by
  refine APure.of_body good [] (fn := Tryz.f124) (by kernel_rfl) (by kernel_rfl) rfl rfl (by kernel_rfl) rfl (by kernel_rfl) ?_
  conv => whnf
  repeat' (first
    | (refine SEx.mk _ (by first | exact checkSize_pure _ | exact checkCat_pure _ | exact CheckPolygon_pure a.poly ha | exact first3_pure _ _ _) ?_; conv => whnf)
    | (refine SAnd.mk (by first | exact rfl | kernel_rfl | omega | decide | exact checkSize_pure _ | exact checkCat_pure _ | exact CheckPolygon_pure a.poly ha | exact first3_pure _ _ _) ?_; conv => whnf)
    | fail)
  exact ⟨PLe.refl _⟩
theorem landCheck_pure {m : Int} (l : Ld) : APure (C m) 134 [.agg (lc l)] (I (landE l)) := by
  refine APure.of_body good [] (fn := Tryz.f134) (by kernel_rfl) (by kernel_rfl) rfl rfl (by kernel_rfl) rfl (by kernel_rfl) ?_
  conv => whnf
  repeat' (first
    | (refine SEx.mk _ (by first | exact checkCat_pure _ | exact checkTicks_pure _ _ | exact first2_pure _ _) ?_; conv => whnf)
    | (refine SAnd.mk (by first | exact rfl | kernel_rfl | omega | decide | exact checkCat_pure _ | exact checkTicks_pure _ _ | exact first2_pure _ _) ?_; conv => whnf)
    | fail)
  exact ⟨PLe.refl _⟩
theorem moveCheck_pure {m : Int} (x : Mv) : APure (C m) 137 [.agg (mc x)] (I (moveE x)) := by
  refine APure.of_body good [] (fn := Tryz.f137) (by kernel_rfl) (by kernel_rfl) rfl rfl (by kernel_rfl) rfl (by kernel_rfl) ?_
  conv => whnf
  repeat' (first
    | (refine SEx.mk _ (by first | exact checkSize_pure _ | exact checkBox_pure x.box | exact checkTicks_pure _ _ | exact first3_pure _ _ _) ?_; conv => whnf)
    | (refine SAnd.mk (by first | exact rfl | kernel_rfl | omega | decide | exact checkSize_pure _ | exact checkBox_pure x.box | exact checkTicks_pure _ _ | exact first3_pure _ _ _) ?_; conv => whnf)
    | fail)
  exact ⟨PLe.refl _⟩
theorem flyCheck_pure {m : Int} (f : Fg) : APure (C m) 148 [.agg (fc f)] (I (flyE f)) := by
  refine APure.of_body good [] (fn := Tryz.f148) (by kernel_rfl) (by kernel_rfl) rfl rfl (by kernel_rfl) rfl (by kernel_rfl) ?_
  conv => whnf
  repeat' (first
    | (refine SEx.mk _ (by first | exact within_pure _ _ _ | exact first2_pure _ _) ?_; conv => whnf)
    | (refine SAnd.mk (by first | exact rfl | kernel_rfl | omega | decide | exact within_pure _ _ _ | exact first2_pure _ _) ?_; conv => whnf)
    | fail)
  exact ⟨PLe.refl _⟩
theorem CheckAreas_pure {m : Int} (l : List Ar) (hl : l.length ≤ 1000000) (hp : l.length ≤ 16 → ∀ a ∈ l, a.poly.length ≤ 1000) : APure (C m) 38 [.seq 4 (l.map ac)] (I (areasE l)) := by
  have h := named122 (m := m) (·.name) areaE 123 124 l 16 hl (fun x _ => label123 x) (fun h x hx => areaCheck_pure x (hp (by omega) x hx))
  refine APure.of_body good [] (fn := Tryz.f38) (by kernel_rfl) (by kernel_rfl) rfl rfl (by kernel_rfl) rfl (by kernel_rfl) ?_
  conv => whnf
  repeat' (first
    | (refine SEx.mk _ (by first | exact h) ?_; conv => whnf)
    | fail)
  exact ⟨PLe.refl _⟩
theorem CheckLandings_pure {m : Int} (l : List Ld) (hl : l.length ≤ 1000000) : APure (C m) 50 [.seq 4 (l.map lc)] (I (landsE l)) := by
  have h := named132 (m := m) (·.name) landE 133 134 l 32 hl (fun x _ => label133 x) (fun _ x hx => landCheck_pure x)
  refine APure.of_body good [] (fn := Tryz.f50) (by kernel_rfl) (by kernel_rfl) rfl rfl (by kernel_rfl) rfl (by kernel_rfl) ?_
  conv => whnf
  repeat' (first
    | (refine SEx.mk _ (by first | exact h) ?_; conv => whnf)
    | fail)
  exact ⟨PLe.refl _⟩
theorem CheckMoves_pure {m : Int} (l : List Mv) (hl : l.length ≤ 1000000) : APure (C m) 51 [.seq 8 (l.map mc)] (I (movesE l)) := by
  have h := named135 (m := m) (·.name) moveE 136 137 l 32 hl (fun x _ => label136 x) (fun _ x hx => moveCheck_pure x)
  refine APure.of_body good [] (fn := Tryz.f51) (by kernel_rfl) (by kernel_rfl) rfl rfl (by kernel_rfl) rfl (by kernel_rfl) ?_
  conv => whnf
  repeat' (first
    | (refine SEx.mk _ (by first | exact h) ?_; conv => whnf)
    | fail)
  exact ⟨PLe.refl _⟩
theorem CheckFlights_pure {m : Int} (l : List Fg) (hl : l.length ≤ 1000000) : APure (C m) 70 [.seq 3 (l.map fc)] (I (flightsE l)) := by
  have hnam := named146 (m := m) (·.name) flyE 147 148 l 8 hl (fun x _ => label147 x) (fun _ x hx => flyCheck_pure x)
  have hlen : (((l.map fc).length : Nat) : Int) = l.length := by simp
  have e : ∀ a : Int, a = (if l.length = 0 then 12 else 0) → firstOf [a, namedE 8 (l.map fun x => (x.name, flyE x))] = flightsE l := fun a ha => by rw [ha]; rfl
  refine APure.of_body good [] (fn := Tryz.f70) (by kernel_rfl) (by kernel_rfl) rfl rfl (by kernel_rfl) rfl (by kernel_rfl) ?_
  conv => whnf
  repeat' (first
    | (rw [hlen]; conv => whnf)
    | (refine SBool.mk (fun h => ?_) (fun h => ?_) <;> conv => whnf)
    | (refine SEx.mk _ (by first | exact hnam | exact when_pure _ _ | exact first2_pure _ _) ?_; conv => whnf)
    | fail)
  all_goals exact ⟨PLe.of_eq (congrArg I (e _ (by first | exact (if_pos (by omega)).symm | exact (if_neg (by omega)).symm)))⟩
theorem checkScene_pure {m : Int} (l : List Ar) (x : List Ld) (y : List Mv) (hl : l.length ≤ 1000000) (hp : l.length ≤ 16 → ∀ a ∈ l, a.poly.length ≤ 1000) (hx : x.length ≤ 1000000) (hy : y.length ≤ 1000000) :
    APure (C m) 125 [.seq 4 (l.map ac), .seq 4 (x.map lc), .seq 8 (y.map mc)] (I (sceneE l x y)) := by
  refine APure.of_body good [] (fn := Tryz.f125) (by kernel_rfl) (by kernel_rfl) rfl rfl (by kernel_rfl) rfl (by kernel_rfl) ?_
  conv => whnf
  repeat' (first
    | (refine SEx.mk _ (by first | exact CheckAreas_pure l hl hp | exact CheckLandings_pure x hx | exact CheckMoves_pure y hy | exact first3_pure _ _ _) ?_; conv => whnf)
    | fail)
  exact ⟨PLe.refl _⟩
theorem applies_pure {m : Int} (a : Ar) (size cat : Int) : APure (C m) 112 [.agg (ac a), I size, I cat] (Bo (appliesB a size cat)) := by
  refine APure.of_body good [] (fn := Tryz.f112) (by kernel_rfl) (by kernel_rfl) rfl rfl (by kernel_rfl) rfl (by kernel_rfl) ?_
  conv => whnf
  repeat' (first
    | (refine SBool.mk (fun h => ?_) (fun h => ?_) <;> conv => whnf)
    | fail)
  all_goals exact ⟨PLe.of_eq (congrArg Bo (by unfold appliesB; first | (rw [decide_eq_true (by omega), decide_eq_true (by omega)]; rfl) | (rw [Bool.and_eq_false_iff.2 (.inl (decide_eq_false (by omega)))]) | (rw [Bool.and_eq_false_iff.2 (.inr (decide_eq_false (by omega)))])))⟩
end Go.Proofs.Ab.Area
end
section
/- What applies, what is usable; when a landing and a move are in conflict. -/
set_option maxRecDepth 100000
set_option linter.unusedVariables false
set_option linter.unusedSimpArgs false
namespace Go.Proofs.Ab.Area
open Go Go.RowKit Go.Proofs.Ab
abbrev words (xs : List ByteArray) : List (List PV) := xs.map fun s => [St s]
theorem filt_succ {α : Type} {xs : List α} {k : Nat} (h : k < xs.length) (f : α → Bool) (g : α → ByteArray) : ((xs.take (k + 1)).filter f).map g = ((xs.take k).filter f).map g ++ (if f xs[k] = true then [g xs[k]] else []) := by
  rw [List.take_succ_eq_append_getElem h, List.filter_append, List.map_append]
  congr 1
  cases hfk : f xs[k] <;> simp [List.filter, hfk]
theorem filt_len {α : Type} (xs : List α) (f : α → Bool) (g : α → ByteArray) (k : Nat) : (((xs.take k).filter f).map g).length ≤ xs.length := by
  rw [List.length_map]
  exact Nat.le_trans (List.length_filter_le _ _) (by rw [List.length_take]; omega)
theorem indexFunc181 {m : Int} (f : Ar → Bool) (g : FuncId) (caps : List PV) (xs : List Ar) (hl : xs.length ≤ 1000000) (h : ∀ x ∈ xs, APure (C m) g (.agg (ac x) :: caps) (Bo (f x))) :
    APure (C m) 181 [.seq 4 (xs.map ac), .fn g caps] (I (idx f xs 0)) := by
  refine APure.of_body good [] (fn := Tryz.f181) (by kernel_rfl) (by kernel_rfl) rfl rfl (by kernel_rfl) rfl (by kernel_rfl) ?_
  conv => whnf
  refine ⟨AWp.loop (ι := { k : Nat // k ≤ xs.length ∧ idx f xs 0 = idx f (xs.drop k) k }) (fun k => ⟨[(8, .p (I k.1)), (7, .p (I xs.length)), (1, .p (.fn g caps)), (0, .p (.seq 4 (xs.map ac)))], [], [], 0, [], [], []⟩) (fun k => xs.length - k.1) ⟨0, by simp⟩ ?_ ?_⟩
  · skip
    · refine SLe.of [] [] rfl rfl ?_
      conv => whnf
      repeat' (first
      | exact True.intro
      | (refine SAnd.mk (PLe.refl _) ?_; conv => whnf)
      | (refine SAnd.mk (PLe.of_eq (by simp)) ?_; conv => whnf))
  · rintro ⟨k, hk, he⟩
    refine codeK_sound good (mu := []) ?_
    conv => whnf
    refine SBool.mk (fun hc => ?_) (fun hc => ?_)
    · have hkl : k < xs.length := by simpa using hc
      have hcall := h xs[k] (List.getElem_mem hkl)
      have hsome : 0 ≤ (k : Int) ∧ (xs.map ac)[((k : Int)).toNat]? = some (ac xs[k]) := ⟨by omega, by show (xs.map ac)[k]? = _; simp [hkl]⟩
      have wk : wrapK IntKind.i64 ((k : Int) + 1) = k + 1 := w64 (by omega)
      have hid := idx_drop f hkl
      conv => whnf
      cases hf : f xs[k] with
      | true =>
        rw [hf] at hcall hid
        conv => whnf
        repeat' (first
          | (refine SEx.mk _ (by first | exact hsome | exact hcall) ?_; conv => whnf)
          | fail)
        exact ⟨PLe.of_eq (congrArg I (he.trans hid).symm)⟩
      | false =>
        rw [hf] at hcall hid
        conv => whnf
        repeat' (first
          | (rw [wk]; conv => whnf)
          | (refine SEx.mk _ (by first | exact hsome | exact hcall) ?_; conv => whnf)
          | fail)
        refine ⟨⟨k + 1, hkl, he.trans hid⟩, by simp only; omega, ?_⟩
        skip
        · refine SLe.of [] [] rfl rfl ?_
          conv => whnf
          repeat' (first
          | exact True.intro
          | (refine SAnd.mk (PLe.refl _) ?_; conv => whnf))
    · conv => whnf
      have : k = xs.length := by simp at hc; omega
      subst this
      exact ⟨PLe.of_eq (by rw [he]; simp [idx])⟩
theorem containsFunc118 {m : Int} (f : Ar → Bool) (g : FuncId) (caps : List PV) (xs : List Ar) (hl : xs.length ≤ 1000000) (h : ∀ x ∈ xs, APure (C m) g (.agg (ac x) :: caps) (Bo (f x))) :
    APure (C m) 118 [.seq 4 (xs.map ac), .fn g caps] (Bo (xs.any f)) := by
  have hi := idx_any f xs
  refine APure.of_body good [] (fn := Tryz.f118) (by kernel_rfl) (by kernel_rfl) rfl rfl (by kernel_rfl) rfl (by kernel_rfl) ?_
  conv => whnf
  repeat' (first
    | (refine SBool.mk (fun h => ?_) (fun h => ?_) <;> conv => whnf)
    | (refine SEx.mk _ (by first | exact indexFunc181 f g caps xs hl h) ?_; conv => whnf)
    | fail)
  · exact ⟨PLe.of_eq (by rw [hi.1 (by assumption)])⟩
  · exact ⟨PLe.of_eq (by rw [hi.2 (by assumption)])⟩
noncomputable def c28 : Code := Tryz.f28.body.getD .skip
theorem apply_loop {m : Int} (l : List Ar) (size cat : Int) (hl : l.length ≤ 1000000) :
    AWp (C m) Tryz.f28.ntmps (pieceAt [1, 1] c28) (endV m [ResultVar.tmp 6, ResultVar.tmp 7] (.tup [.seq 1 (words (applyL l size cat)), I 0])) ⟨[(0, .p (.seq 4 (l.map ac))), (1, .p (I size)), (2, .p (I cat))], [], [], 0, [], [], []⟩ := by
  have hlen : (((l.map ac).length : Nat) : Int) = l.length := by simp
  refine codeK_sound good (mu := []) ?_
  conv => whnf
  refine ⟨AWp.loop (ι := { k : Nat // k ≤ l.length }) (fun k => ⟨[(25, .p (I k.1)), (24, .p (I l.length)), (23, .p (.seq 4 (l.map ac))), (9, .own 0), (1, .p (I size)), (2, .p (I cat))], [], [(0, (9, 1, words (((l.take k.1).filter fun a => appliesB a size cat).map (·.name))))], 1, [], [], []⟩) (fun k => l.length - k.1) ⟨0, by simp⟩ ?_ ?_⟩
  · refine SLe.row 9 9 1 ?_
    conv => whnf
    skip
    · refine SLe.of [] [(0, 0)] rfl rfl ?_
      conv => whnf
      repeat' (first
      | exact True.intro
      | (refine SAnd.mk (PLe.refl _) ?_; conv => whnf)
      | (refine SAnd.mk (PLe.of_eq (by simp)) ?_; conv => whnf)
      | (refine SAnd.mk rfl ?_; conv => whnf))
  · rintro ⟨k, hk⟩
    refine codeK_sound good (mu := []) ?_
    conv => whnf
    refine SBool.mk (fun hcn => ?_) (fun hcn => ?_)
    · have hkl : k < l.length := by simpa using hcn
      have hsome : 0 ≤ (k : Int) ∧ (l.map ac)[((k : Int)).toNat]? = some (ac l[k]) := ⟨by omega, by show (l.map ac)[k]? = _; simp [hkl]⟩
      have wk : wrapK IntKind.i64 ((k : Int) + 1) = k + 1 := w64 (by omega)
      have ha := applies_pure (m := m) l[k] size cat
      have hfs := filt_succ hkl (fun a => appliesB a size cat) (·.name)
      have hfl := filt_len l (fun a => appliesB a size cat) (·.name) k
      generalize appliesB l[k] size cat = b at ha hfs
      generalize ((l.take k).filter fun a => appliesB a size cat).map (·.name) = ys at hfl hfs
      conv => whnf
      cases b
      · skip
        conv => whnf
        repeat' (first
          | (rw [wk]; conv => whnf)
          | (refine SEx.mk _ (by first | exact hsome | exact ha) ?_; conv => whnf)
          | fail)
        refine ⟨⟨k + 1, hkl⟩, by simp only; omega, ?_⟩
        skip
        · refine SLe.of [] [(0, 0)] rfl rfl ?_
          conv => whnf
          repeat' (first
          | exact True.intro
          | (refine SAnd.mk (show _ = (_ : List (List PV)) from by rw [hfs]; simp) ?_; conv => whnf)
          | (refine SAnd.mk (PLe.refl _) ?_; conv => whnf))
      · skip
        conv => whnf
        repeat' (first
          | (rw [wk]; conv => whnf)
          | (refine SEx.mk _ (by first | exact hsome | exact ha) ?_; conv => whnf)
          | (refine SAnd.mk ⟨by intro c hc; simp at hc; first | (subst hc; rfl) | ((repeat' (rcases hc with rfl | hc)) <;> first | rfl | (subst hc; rfl)), by (simp; first | done | omega), by (simp; first | done | omega)⟩ ?_; conv => whnf)
          | fail)
        refine ⟨⟨k + 1, hkl⟩, by simp only; omega, ?_⟩
        skip
        · refine SLe.of [] [(0, 2)] rfl rfl ?_
          conv => whnf
          repeat' (first
          | exact True.intro
          | (refine SAnd.mk (show _ = (_ : List (List PV)) from by rw [hfs]; simp [words]) ?_; conv => whnf)
          | (refine SAnd.mk (PLe.refl _) ?_; conv => whnf))
    · conv => whnf
      have : k = l.length := by simp at hcn; omega
      subst this
      exact ⟨PLe.of_eq (by rw [List.take_length]; rfl)⟩
def applyV (l : List Ar) (size cat : Int) : PV := if applyE l size cat = 0 then .seq 1 (words (applyL l size cat)) else nilS
theorem Applying_pure {m : Int} (l : List Ar) (size cat : Int) (hl : l.length ≤ 1000000) (hp : l.length ≤ 16 → ∀ a ∈ l, a.poly.length ≤ 1000) : APure (C m) 28 [.seq 4 (l.map ac), I size, I cat] (.tup [applyV l size cat, I (applyE l size cat)]) := by
  have go := apply_loop (m := m) l size cat hl
  by_cases hE : applyE l size cat = 0
  · have e2 : firstOf [areasE l, sizeE size, catE cat] = 0 := hE
    unfold applyV
    rw [if_pos hE, hE]
    refine APure.of_wp good (fn := Tryz.f28) (by kernel_rfl) (by kernel_rfl) rfl rfl (by kernel_rfl) rfl (by kernel_rfl) ?_
    refine codeN_sound good (mu := []) (n := 2) ?_
    conv => whnf
    repeat' (first
      | (refine SBool.mk (fun h => ?_) (fun h => ?_) <;> conv => whnf)
      | (refine SEx.mk _ (by first | exact CheckAreas_pure l hl hp | exact checkSize_pure _ | exact checkCat_pure _ | exact first3_pure _ _ _) ?_; conv => whnf)
      | fail)
    · refine ⟨AWp.le ?_ go⟩
      skip
      · refine SLe.of [] [] rfl rfl ?_
        conv => whnf
        repeat' (first
        | exact True.intro
        | (refine SAnd.mk (PLe.refl _) ?_; conv => whnf))
    · exact absurd e2 (by assumption)
  · unfold applyV
    rw [if_neg hE]
    refine APure.of_body good [] (fn := Tryz.f28) (by kernel_rfl) (by kernel_rfl) rfl rfl (by kernel_rfl) rfl (by kernel_rfl) ?_
    conv => whnf
    repeat' (first
      | (refine SBool.mk (fun h => ?_) (fun h => ?_) <;> conv => whnf)
      | (refine SEx.mk _ (by first | exact CheckAreas_pure l hl hp | exact checkSize_pure _ | exact checkCat_pure _ | exact first3_pure _ _ _) ?_; conv => whnf)
      | fail)
    · exact absurd (by assumption) hE
    · exact ⟨PLe.refl _⟩
theorem inside_pure {m : Int} (a : Ar) (size cat : Int) (h : Hd) (hl : a.poly.length ≤ 1000000) (hf : ∀ q ∈ a.poly, q.Fit) (hh : h.at_.Fit) : APure (C m) 117 [.agg (ac a), .ref [I size], .ref [I cat], .ref (hc h)] (Bo (appliesB a size cat && inB a.poly h.at_)) := by
  have ha := applies_pure (m := m) a size cat
  have hi := in_pure (m := m) a.poly h.at_ hl hf hh
  cases hb : appliesB a size cat with
  | true =>
    rw [hb] at ha
    refine APure.of_body good [] (fn := Tryz.f117) (by kernel_rfl) (by kernel_rfl) rfl rfl (by kernel_rfl) rfl (by kernel_rfl) ?_
    conv => whnf
    repeat' (first
      | (refine SEx.mk _ (by first | exact ha | exact hi) ?_; conv => whnf)
      | fail)
    exact ⟨PLe.refl _⟩
  | false =>
    rw [hb] at ha
    refine APure.of_body good [] (fn := Tryz.f117) (by kernel_rfl) (by kernel_rfl) rfl rfl (by kernel_rfl) rfl (by kernel_rfl) ?_
    conv => whnf
    repeat' (first
      | (refine SEx.mk _ (by first | exact ha | exact hi) ?_; conv => whnf)
      | fail)
    exact ⟨PLe.refl _⟩
noncomputable def c30 : Code := Tryz.f30.body.getD .skip
theorem usable_loop {m : Int} (l : List Ar) (h : List Hd) (size cat : Int) (hl : l.length ≤ 1000000) (hhl : h.length ≤ 1000000) (hp : ∀ a ∈ l, a.poly.length ≤ 1000000 ∧ ∀ q ∈ a.poly, q.Fit) (hh : ∀ x ∈ h, x.at_.Fit) :
    AWp (C m) Tryz.f30.ntmps (pieceAt [1, 1] c30) (endV m [ResultVar.tmp 8, ResultVar.tmp 9] (.tup [.seq 1 (words (usableL l h size cat)), I 0])) ⟨[(0, .p (.seq 4 (l.map ac))), (1, .p (.seq 3 (h.map hc))), (6, .p (.ref [I size])), (7, .p (.ref [I cat]))], [], [], 0, [], [], []⟩ := by
  have hlen : (((h.map hc).length : Nat) : Int) = h.length := by simp
  refine codeK_sound good (mu := []) ?_
  conv => whnf
  refine ⟨AWp.loop (ι := { k : Nat // k ≤ h.length }) (fun k => ⟨[(30, .p (I k.1)), (29, .p (I h.length)), (28, .p (.seq 3 (h.map hc))), (11, .own 0), (0, .p (.seq 4 (l.map ac))), (6, .p (.ref [I size])), (7, .p (.ref [I cat]))], [], [(0, (9, 1, words (((h.take k.1).filter fun x => !l.any fun a => appliesB a size cat && inB a.poly x.at_).map (·.name))))], 1, [], [], []⟩) (fun k => h.length - k.1) ⟨0, by simp⟩ ?_ ?_⟩
  · refine SLe.row 11 9 1 ?_
    conv => whnf
    skip
    · refine SLe.of [] [(0, 0)] rfl rfl ?_
      conv => whnf
      repeat' (first
      | exact True.intro
      | (refine SAnd.mk (PLe.refl _) ?_; conv => whnf)
      | (refine SAnd.mk (PLe.of_eq (by simp)) ?_; conv => whnf)
      | (refine SAnd.mk rfl ?_; conv => whnf))
  · rintro ⟨k, hk⟩
    refine codeK_sound good (mu := []) ?_
    conv => whnf
    refine SBool.mk (fun hcn => ?_) (fun hcn => ?_)
    · have hkl : k < h.length := by simpa using hcn
      have hsome : 0 ≤ (k : Int) ∧ (h.map hc)[((k : Int)).toNat]? = some (hc h[k]) := ⟨by omega, by show (h.map hc)[k]? = _; simp [hkl]⟩
      have wk : wrapK IntKind.i64 ((k : Int) + 1) = k + 1 := w64 (by omega)
      have hcf := containsFunc118 (m := m) (fun a => appliesB a size cat && inB a.poly h[k].at_) 117 [.ref [I size], .ref [I cat], .ref (hc h[k])] l hl (fun a ha => inside_pure a size cat h[k] (hp a ha).1 (hp a ha).2 (hh _ (List.getElem_mem hkl)))
      have hfs := filt_succ hkl (fun x => !l.any fun a => appliesB a size cat && inB a.poly x.at_) (·.name)
      have hfl := filt_len h (fun x => !l.any fun a => appliesB a size cat && inB a.poly x.at_) (·.name) k
      generalize (l.any fun a => appliesB a size cat && inB a.poly h[k].at_) = b at hcf hfs
      generalize ((h.take k).filter fun x => !l.any fun a => appliesB a size cat && inB a.poly x.at_).map (·.name) = ys at hfl hfs
      conv => whnf
      cases b
      · skip
        conv => whnf
        repeat' (first
          | (rw [wk]; conv => whnf)
          | (refine SEx.mk _ (by first | exact hsome | exact hcf) ?_; conv => whnf)
          | (refine SAnd.mk ⟨by intro c hc; simp at hc; first | (subst hc; rfl) | ((repeat' (rcases hc with rfl | hc)) <;> first | rfl | (subst hc; rfl)), by (simp; first | done | omega), by (simp; first | done | omega)⟩ ?_; conv => whnf)
          | fail)
        refine ⟨⟨k + 1, hkl⟩, by simp only; omega, ?_⟩
        skip
        · refine SLe.of [] [(0, 2)] rfl rfl ?_
          conv => whnf
          repeat' (first
          | exact True.intro
          | (refine SAnd.mk (show _ = (_ : List (List PV)) from by rw [hfs]; simp [words]) ?_; conv => whnf)
          | (refine SAnd.mk (PLe.refl _) ?_; conv => whnf))
      · skip
        conv => whnf
        repeat' (first
          | (rw [wk]; conv => whnf)
          | (refine SEx.mk _ (by first | exact hsome | exact hcf) ?_; conv => whnf)
          | fail)
        refine ⟨⟨k + 1, hkl⟩, by simp only; omega, ?_⟩
        skip
        · refine SLe.of [] [(0, 0)] rfl rfl ?_
          conv => whnf
          repeat' (first
          | exact True.intro
          | (refine SAnd.mk (show _ = (_ : List (List PV)) from by rw [hfs]; simp) ?_; conv => whnf)
          | (refine SAnd.mk (PLe.refl _) ?_; conv => whnf))
    · conv => whnf
      have : k = h.length := by simp at hcn; omega
      subst this
      exact ⟨PLe.of_eq (by rw [List.take_length]; rfl)⟩
theorem common_pure {m : Int} (a b c d : Int) : APure (C m) 213 [.agg [I a, I b], .agg [I c, I d]] (Bo (commonB a b c d)) := by
  refine APure.of_body good [] (fn := Tryz.f213) (by kernel_rfl) (by kernel_rfl) rfl rfl (by kernel_rfl) rfl (by kernel_rfl) ?_
  conv => whnf
  repeat' (first
    | (refine SBool.mk (fun h => ?_) (fun h => ?_) <;> conv => whnf)
    | fail)
  all_goals exact ⟨PLe.of_eq (congrArg Bo (by unfold commonB; first | (rw [decide_eq_true (by omega), decide_eq_true (by omega)]; rfl) | (rw [Bool.and_eq_false_iff.2 (.inl (decide_eq_false (by omega)))]) | (rw [Bool.and_eq_false_iff.2 (.inr (decide_eq_false (by omega)))])))⟩
theorem against_pure {m : Int} (l : Ld) (x : Mv) (a : Ar) (hl : a.poly.length ≤ 1000) (hf : ∀ q ∈ a.poly, q.Fit) (hb : x.box.Fit) : APure (C m) 185 [.agg (lc l), .agg (mc x), .agg (ac a)] (Bo (againstB l x a)) := by
  have h1 := common_pure (m := m) l.lo l.hi x.lo x.hi
  have h2 := applies_pure (m := m) a x.size l.cat
  have h3 := meets_pure (m := m) a.poly x.box hl hf hb
  have e : againstB l x a = (commonB l.lo l.hi x.lo x.hi && appliesB a x.size l.cat && meetsB a.poly x.box) := rfl
  rw [e]
  generalize commonB l.lo l.hi x.lo x.hi = b1 at h1
  generalize appliesB a x.size l.cat = b2 at h2
  generalize meetsB a.poly x.box = b3 at h3
  cases b1 <;> cases b2
  all_goals
    refine APure.of_body good [] (fn := Tryz.f185) (by kernel_rfl) (by kernel_rfl) rfl rfl (by kernel_rfl) rfl (by kernel_rfl) ?_
    conv => whnf
    repeat' (first
      | (refine SEx.mk _ (by first | exact h1 | exact h2 | exact h3) ?_; conv => whnf)
      | fail)
    exact ⟨PLe.refl _⟩
end Go.Proofs.Ab.Area
end
section
/- The conflicts, visited: a move that is permitted. -/
set_option maxRecDepth 100000
set_option linter.unusedVariables false
set_option linter.unusedSimpArgs false
namespace Go.Proofs.Ab.Area
open Go Go.RowKit Go.Proofs.Ab
theorem conflicts_pure {m : Int} (areas : List Ar) (lands : List Ld) (moves : List Mv) : APure (C m) 127 [.seq 4 (areas.map ac), .seq 4 (lands.map lc), .seq 8 (moves.map mc)] (.fn 184 [.ref [.seq 4 (lands.map lc)], .ref [.seq 8 (moves.map mc)], .ref [.seq 4 (areas.map ac)]]) := by
  refine APure.of_body good [] (fn := Tryz.f127) (by kernel_rfl) (by kernel_rfl) rfl rfl (by kernel_rfl) rfl (by kernel_rfl) ?_
  conv => whnf
  repeat' (first
    | fail)
  exact ⟨PLe.refl _⟩
def gA (areas : List Ar) (l : Ld) (x : Mv) (j : Nat) : Bool := againstB l x (areas.getD j default)
def gM (areas : List Ar) (moves : List Mv) (l : Ld) (k : Nat) : Bool := (List.range areas.length).any (gA areas l (moves.getD k default))
def gL (areas : List Ar) (lands : List Ld) (moves : List Mv) (i : Nat) : Bool := (List.range moves.length).any (gM areas moves (lands.getD i default))
theorem getD_lt {α : Type} [Inhabited α] {l : List α} {k : Nat} (h : k < l.length) : l.getD k default = l[k] := by
  rw [List.getD_eq_getElem?_getD, List.getElem?_eq_getElem h]; rfl
theorem some_at {α : Type} {l : List α} {k : Nat} (h : k < l.length) (f : α → List PV) : 0 ≤ (k : Int) ∧ (l.map f)[((k : Int)).toNat]? = some (f l[k]) := ⟨by omega, by show (l.map f)[k]? = _; simp [h]⟩
theorem wsucc {k : Nat} (h : k ≤ 1000000) : wrapK IntKind.i64 ((k : Int) + 1) = k + 1 := w64 (by omega)
theorem sub_lt {n k : Nat} (h : k < n) : n - (k + 1) < n - k := by omega
set_option maxHeartbeats 8000000 in
theorem permitted_pure {m : Int} (areas : List Ar) (lands : List Ld) (x : Mv) (ha : areas.length ≤ 1000) (hl : lands.length ≤ 1000) (hp : ∀ a ∈ areas, a.poly.length ≤ 1000 ∧ ∀ q ∈ a.poly, q.Fit) (hb : x.box.Fit) :
    APure (C m) 138 [.seq 4 (areas.map ac), .seq 4 (lands.map lc), .agg (mc x)] (Bo (!(List.range lands.length).any (gL areas lands [x]))) := by
  have hc := conflicts_pure (m := m) areas lands [x]
  refine APure.of_body good [] (fn := Tryz.f138) (by kernel_rfl) (by kernel_rfl) rfl rfl (by kernel_rfl) rfl (by kernel_rfl) ?_
  conv => whnf
  repeat' (first
    | (refine SEx.mk _ (by first | exact hc) ?_; conv => whnf)
    | fail)
  refine ⟨AWp.post (AWp.rangeF rfl ?_)⟩
  conv => whnf
  intro gd gl L hLp hLa hLb
  refine ACall.inline good [] (fn := Tryz.f184) (by kernel_rfl) (by kernel_rfl) rfl rfl (by kernel_rfl) rfl (by kernel_rfl) ?_
  conv => whnf
  refine ⟨AWp.loop (ι := { i : Nat // i ≤ lands.length ∧ (List.range i).any (gL areas lands [x]) = false }) (fun i => ⟨[(13, .p (I i.1)), (12, .p (I lands.length)), (11, .p (.seq 4 (lands.map lc))), (0, .p (.v (.func (.yield gl) #[] #[]))), (1, .p (.ref [.seq 4 (lands.map lc)])), (2, .p (.ref [.seq 8 ([x].map mc)])), (3, .p (.ref [.seq 4 (areas.map ac)]))],
    [(0, (4, [Bo false]))], [], 3, [(6, .box 0 0)], [(2, .loop gl .ready Tryz.f138.ntmps [(6, .box 0 0)] L), (1, .dfr gd)], []⟩) (fun i => lands.length - i.1) ⟨0, by simp⟩ ?_ ?_⟩
  · skip
    · refine SLe.ofO [(0, 0)] [] [(2, 2), (1, 1)] rfl rfl rfl ?_
      conv => whnf
      repeat' (first
      | exact True.intro
      | (refine SAnd.mk (PLe.refl _) ?_; conv => whnf)
      | (refine SAnd.mk (PLeL.refl _) ?_; conv => whnf)
      | (refine SAnd.mk (PLe.of_eq (by simp)) ?_; conv => whnf)
      | (refine SAnd.mk rfl ?_; conv => whnf)
      | (refine SAnd.mk ⟨rfl, rfl⟩ ?_; conv => whnf))
  · rintro ⟨i, hi, hI⟩
    refine codeK_sound good (mu := []) ?_
    conv => whnf
    refine SBool.mk (fun hc1 => ?_) (fun hc1 => ?_)
    · have hil : i < lands.length := by simpa using hc1
      have hs1 := some_at hil lc
      have mi := sub_lt hil
      have wi := wsucc (k := i) (Nat.le_trans (Nat.le_of_lt hil) (Nat.le_trans hl (by decide)))
      conv => whnf
      conv => whnf
      repeat' (first
        | (refine SEx.mk _ (by first | exact hs1) ?_; conv => whnf)
        | fail)
      refine ⟨AWp.loop (ι := { k : Nat // k ≤ [x].length ∧ (List.range k).any (gM areas [x] (lands.getD i default)) = false }) (fun k => ⟨[(20, .p (I k.1)), (19, .p (I (1 : Nat))), (18, .p (.seq 8 ([x].map mc))), (6, .box 3 0), (5, .p (I i)), (13, .p (I i)), (12, .p (I lands.length)), (11, .p (.seq 4 (lands.map lc))), (0, .p (.v (.func (.yield gl) #[] #[]))), (1, .p (.ref [.seq 4 (lands.map lc)])), (2, .p (.ref [.seq 8 ([x].map mc)])), (3, .p (.ref [.seq 4 (areas.map ac)]))],
    [(3, (202, lc lands[i])), (0, (4, [Bo false]))], [], 4, [(6, .box 0 0)], [(2, .loop gl .ready Tryz.f138.ntmps [(6, .box 0 0)] L), (1, .dfr gd)], []⟩) (fun k => [x].length - k.1) ⟨0, by simp⟩ ?_ ?_⟩
      · skip
        · refine SLe.ofO [(0, 0), (3, 3)] [] [(2, 2), (1, 1)] rfl rfl rfl ?_
          conv => whnf
          repeat' (first
          | exact True.intro
          | (refine SAnd.mk (PLe.refl _) ?_; conv => whnf)
          | (refine SAnd.mk (PLeL.refl _) ?_; conv => whnf)
          | (refine SAnd.mk rfl ?_; conv => whnf)
          | (refine SAnd.mk ⟨rfl, rfl⟩ ?_; conv => whnf))
      · rintro ⟨k, hk, hK⟩
        refine codeK_sound good (mu := []) ?_
        conv => whnf
        refine SBool.mk (fun hc2 => ?_) (fun hc2 => ?_)
        · have hkl : k < [x].length := by simp at hc2 ⊢; omega
          have hk0 : k = 0 := by simp at hkl; omega
          subst hk0
          have hs2 : 0 ≤ ((0 : Nat) : Int) ∧ ([x].map mc)[(((0 : Nat) : Int)).toNat]? = some (mc x) := ⟨by omega, rfl⟩
          have wk : wrapK IntKind.i64 (((0 : Nat) : Int) + 1) = ((1 : Nat) : Int) := by kernel_rfl
          conv => whnf
          conv => whnf
          repeat' (first
            | (refine SEx.mk _ (by first | exact hs2) ?_; conv => whnf)
            | fail)
          refine ⟨AWp.loop (ι := { n : Nat // n ≤ areas.length ∧ (List.range n).any (gA areas lands[i] x) = false }) (fun n => ⟨[(27, .p (I n.1)), (26, .p (I areas.length)), (25, .p (.seq 4 (areas.map ac))), (8, .box 4 0), (7, .p (I ((0 : Nat) : Int))), (20, .p (I ((0 : Nat) : Int))), (19, .p (I (1 : Nat))), (18, .p (.seq 8 ([x].map mc))), (6, .box 3 0), (5, .p (I i)), (13, .p (I i)), (12, .p (I lands.length)), (11, .p (.seq 4 (lands.map lc))), (0, .p (.v (.func (.yield gl) #[] #[]))), (1, .p (.ref [.seq 4 (lands.map lc)])), (2, .p (.ref [.seq 8 ([x].map mc)])), (3, .p (.ref [.seq 4 (areas.map ac)]))],
    [(4, (95, mc x)), (3, (202, lc lands[i])), (0, (4, [Bo false]))], [], 5, [(6, .box 0 0)], [(2, .loop gl .ready Tryz.f138.ntmps [(6, .box 0 0)] L), (1, .dfr gd)], []⟩) (fun n => areas.length - n.1) ⟨0, by simp⟩ ?_ ?_⟩
          · skip
            · refine SLe.ofO [(0, 0), (3, 3), (4, 4)] [] [(2, 2), (1, 1)] rfl rfl rfl ?_
              conv => whnf
              repeat' (first
              | exact True.intro
              | (refine SAnd.mk (PLe.refl _) ?_; conv => whnf)
              | (refine SAnd.mk (PLeL.refl _) ?_; conv => whnf)
              | (refine SAnd.mk (PLe.of_eq (by simp)) ?_; conv => whnf)
              | (refine SAnd.mk rfl ?_; conv => whnf)
              | (refine SAnd.mk ⟨rfl, rfl⟩ ?_; conv => whnf))
          · rintro ⟨n, hn, hN⟩
            refine codeK_sound good (mu := []) ?_
            conv => whnf
            refine SBool.mk (fun hc3 => ?_) (fun hc3 => ?_)
            · have hnl : n < areas.length := by simpa using hc3
              have hs3 := some_at hnl ac
              have mn := sub_lt hnl
              have wn := wsucc (k := n) (Nat.le_trans (Nat.le_of_lt hnl) (Nat.le_trans ha (by decide)))
              have hag := against_pure (m := m) lands[i] x areas[n] (hp _ (List.getElem_mem hnl)).1 (hp _ (List.getElem_mem hnl)).2 hb
              have hg : gA areas lands[i] x n = againstB lands[i] x areas[n] := by unfold gA; rw [getD_lt hnl]
              conv => whnf
              cases hB : againstB lands[i] x areas[n] with
              | false =>
                rw [hB] at hag hg
                conv => whnf
                repeat' (first
                  | (rw [wn]; conv => whnf)
                  | (refine SEx.mk _ (by first | exact hs3 | exact hag) ?_; conv => whnf)
                  | fail)
                refine ⟨⟨n + 1, hnl, by rw [range_any, hN, hg]; rfl⟩, mn, ?_⟩
                skip
                · refine SLe.ofO [(0, 0), (3, 3), (4, 4)] [] [(2, 2), (1, 1)] rfl rfl rfl ?_
                  conv => whnf
                  repeat' (first
                  | exact True.intro
                  | (refine SAnd.mk (PLe.refl _) ?_; conv => whnf)
                  | (refine SAnd.mk (PLeL.refl _) ?_; conv => whnf)
                  | (refine SAnd.mk rfl ?_; conv => whnf)
                  | (refine SAnd.mk ⟨rfl, rfl⟩ ?_; conv => whnf))
              | true =>
                rw [hB] at hag hg
                have hres : (!(List.range lands.length).any (gL areas lands [x])) = false := by
                  rw [range_any_true hil]
                  · rfl
                  · refine range_any_true (k := 0) (by simp) ?_
                    rw [getD_lt hil]
                    exact range_any_true hnl hg
                conv => whnf
                repeat' (first
                  | (refine SEx.mk _ (by first | exact hs3 | exact hag) ?_; conv => whnf)
                  | (refine SAnd.mk (by first | exact rfl | kernel_rfl | omega | decide | exact hs3 | exact hag) ?_; conv => whnf)
                  | fail)
                refine SRound.of good [] (n := 2) (ps := [12]) rfl hLp hLa hLb ?_
                clear hLp hLa hLb
                conv => whnf
                refine SAnd.mk rfl ?_
                conv => whnf
                refine codeK_sound goodQ (mu := []) ?_
                conv => whnf
                repeat' (first
                  | (refine SAnd.mk (by first | exact rfl | kernel_rfl | omega | decide) ?_; conv => whnf)
                  | fail)
                refine ⟨_, SLe.refl, ?_⟩
                conv => whnf
                repeat' (first
                  | (refine SAnd.mk (by first | exact rfl | kernel_rfl | omega | decide) ?_; conv => whnf)
                  | fail)
                exact ⟨PLe.of_eq (by rw [hres])⟩
            · have : n = areas.length := by simp at hc3; omega
              subst this
              conv => whnf
              repeat' (first
                | (rw [wk]; conv => whnf)
                | fail)
              refine ⟨⟨1, by simp, by rw [range_any, hK]; unfold gM; rw [getD_lt hil]; simpa using hN⟩, by simp, ?_⟩
              skip
              · refine SLe.ofO [(0, 0), (3, 3)] [] [(2, 2), (1, 1)] rfl rfl rfl ?_
                conv => whnf
                repeat' (first
                | exact True.intro
                | (refine SAnd.mk (PLe.refl _) ?_; conv => whnf)
                | (refine SAnd.mk (PLeL.refl _) ?_; conv => whnf)
                | (refine SAnd.mk rfl ?_; conv => whnf)
                | (refine SAnd.mk ⟨rfl, rfl⟩ ?_; conv => whnf))
        · have hk1 : k = 1 := by simp at hc2 hk; omega
          subst hk1
          conv => whnf
          repeat' (first
            | (rw [wi]; conv => whnf)
            | fail)
          refine ⟨⟨i + 1, hil, by rw [range_any, hI]; unfold gL; simpa using hK⟩, mi, ?_⟩
          skip
          · refine SLe.ofO [(0, 0)] [] [(2, 2), (1, 1)] rfl rfl rfl ?_
            conv => whnf
            repeat' (first
            | exact True.intro
            | (refine SAnd.mk (PLe.refl _) ?_; conv => whnf)
            | (refine SAnd.mk (PLeL.refl _) ?_; conv => whnf)
            | (refine SAnd.mk rfl ?_; conv => whnf)
            | (refine SAnd.mk ⟨rfl, rfl⟩ ?_; conv => whnf))
    · have : i = lands.length := by simp at hc1; omega
      subst this
      conv => whnf
      repeat' (first
        | (refine SAnd.mk (by first | exact rfl | kernel_rfl | omega | decide) ?_; conv => whnf)
        | fail)
      refine ⟨_, SLe.refl, ?_⟩
      conv => whnf
      repeat' (first
        | (refine SAnd.mk (by first | exact rfl | kernel_rfl | omega | decide) ?_; conv => whnf)
        | fail)
      exact ⟨PLe.of_eq (by rw [hI]; rfl)⟩
end Go.Proofs.Ab.Area
end
section
/- All conflicts, collected. -/
set_option maxRecDepth 100000
set_option linter.unusedVariables false
set_option linter.unusedSimpArgs false
namespace Go.Proofs.Ab.Area
open Go Go.RowKit Go.Proofs.Ab
/-- A box comes to be a variable that may hold a row. -/
theorem AWp.toHold {C : Cx} {nt : Nat} {s : AS} {code : Code} {Q : Out → AS → Prop} (n : Nat) {T : Nat} {c : PV} (h : look s.bx n = some (T, [c])) {bx' : List (Nat × (Nat × List PV))} (hbx : ∀ m x, look bx' m = some x → look s.bx m = some x ∧ m ≠ n)
    (hk : ∀ g : Nat, AWp C nt code Q ⟨s.fr, bx', s.rw, s.nx, s.sv, (n, .hold g T (.p c)) :: s.ob, s.df⟩) : AWp C nt code Q s :=
  ⟨fun F k hF B ok0 w0 a w E R hS hR => by
    obtain ⟨g, us, hg, _⟩ := hS.mem.bx n T [c] h
    exact (hk g).wp F k hF B ok0 w0 a w E R (hS.toHold h hg hbx) hR⟩
theorem confA_succ (areas : List Ar) (l : Ld) (x : Mv) (i k n : Nat) : confA areas l x i k (n + 1) = confA areas l x i k n ++ (if gA areas l x n = true then [⟨i, k, n⟩] else []) := by
  unfold confA
  rw [List.range_succ, List.filter_append, List.map_append]
  congr 1
  unfold gA
  by_cases h : againstB l x (areas.getD n default) = true
  · rw [List.filter_cons_of_pos (p := fun j => againstB l x (areas.getD j default)) h, if_pos h]; rfl
  · rw [List.filter_cons_of_neg (p := fun j => againstB l x (areas.getD j default)) h, if_neg h]; rfl
theorem confA_len (areas : List Ar) (l : Ld) (x : Mv) (i k n : Nat) : (confA areas l x i k n).length ≤ n := by
  unfold confA
  rw [List.length_map]
  exact Nat.le_trans (List.length_filter_le _ _) (by simp)
theorem confM_len {areas : List Ar} (ha : areas.length ≤ 1000) (moves : List Mv) (l : Ld) (i : Nat) : ∀ k, (confM areas moves l i k).length ≤ k * 1000
  | 0 => by simp [confM]
  | k + 1 => by
    have ih := confM_len ha moves l i k
    have := confA_len areas l (moves.getD k default) i k areas.length
    unfold confM
    rw [List.length_append]
    omega
theorem confL_len {areas : List Ar} (ha : areas.length ≤ 1000) {moves : List Mv} (hm : moves.length ≤ 1000) (lands : List Ld) : ∀ i, (confL areas lands moves i).length ≤ i * 1000000
  | 0 => by simp [confL]
  | i + 1 => by
    have ih := confL_len ha hm lands i
    have := confM_len ha moves (lands.getD i default) i moves.length
    unfold confL
    rw [List.length_append]
    omega
theorem conf_len {areas : List Ar} (ha : areas.length ≤ 1000) {moves : List Mv} (hm : moves.length ≤ 1000) {lands : List Ld} (hl : lands.length ≤ 1000) {l : Ld} {x : Mv} {i k n : Nat} (hi : i ≤ 1000) (hk : k ≤ 1000) (hn : n ≤ 1000) :
    (confL areas lands moves i ++ confM areas moves l i k ++ confA areas l x i k n).length ≤ 2000000000 := by
  have h1 := confL_len ha hm lands i
  have h2 := confM_len ha moves l i k
  have h3 := confA_len areas l x i k n
  rw [List.length_append, List.length_append]
  omega
set_option maxHeartbeats 16000000 in
theorem appendSeq_pure {m : Int} (areas : List Ar) (lands : List Ld) (moves : List Mv) (ha : areas.length ≤ 1000) (hl : lands.length ≤ 1000) (hm : moves.length ≤ 1000) (hp : ∀ a ∈ areas, a.poly.length ≤ 1000 ∧ ∀ q ∈ a.poly, q.Fit) (hb : ∀ x ∈ moves, x.box.Fit) :
    APure (C m) 183 [nilS, .fn 184 [.ref [.seq 4 (lands.map lc)], .ref [.seq 8 (moves.map mc)], .ref [.seq 4 (areas.map ac)]]] (.seq 3 ((conf areas lands moves).map cc)) := by
  refine APure.of_body good [2] (fn := Tryz.f183) (by kernel_rfl) (by kernel_rfl) rfl rfl (by kernel_rfl) rfl (by kernel_rfl) ?_
  conv => whnf
  repeat' (first
    | fail)
  refine ⟨AWp.toHold 0 rfl (bx' := []) (fun m x h => by cases h) (fun g => AWp.le (t := ⟨[(6, .p (.fn 184 [.ref [.seq 4 (lands.map lc)], .ref [.seq 8 (moves.map mc)], .ref [.seq 4 (areas.map ac)]])), (2, .box 0 0)], [], [(1, (147, 3, []))], 2, [], [(0, .hold g 70 (.own 1))], []⟩) ?_ ?_)⟩
  · refine SLe.rowH 0 147 3 ?_
    conv => whnf
    skip
    · refine SLe.ofO [(0, 0)] [(1, 1)] [(0, 0)] rfl rfl rfl ?_
      conv => whnf
      repeat' (first
      | exact True.intro
      | (refine SAnd.mk (PLe.refl _) ?_; conv => whnf)
      | (refine SAnd.mk rfl ?_; conv => whnf))
  refine AWp.post (AWp.rangeF rfl ?_)
  conv => whnf
  intro gd gl L hLp hLa hLb
  refine ACall.inline good [] (fn := Tryz.f184) (by kernel_rfl) (by kernel_rfl) rfl rfl (by kernel_rfl) rfl (by kernel_rfl) ?_
  conv => whnf
  refine ⟨AWp.loop (ι := { i : Nat // i ≤ lands.length }) (fun i => ⟨[(13, .p (I i.1)), (12, .p (I lands.length)), (11, .p (.seq 4 (lands.map lc))), (0, .p (.v (.func (.yield gl) #[] #[]))), (1, .p (.ref [.seq 4 (lands.map lc)])), (2, .p (.ref [.seq 8 (moves.map mc)])), (3, .p (.ref [.seq 4 (areas.map ac)]))],
    [], [(1, (147, 3, (confL areas lands moves i.1).map cc))], 4, [(2, .box 0 0)], [(3, .loop gl .ready Tryz.f183.ntmps [(2, .box 0 0)] L), (2, .dfr gd), (0, .hold g 70 (.own 1))], []⟩) (fun i => lands.length - i.1) ⟨0, by simp⟩ ?_ ?_⟩
  · skip
    · refine SLe.ofO [(0, 0)] [(1, 1)] [(3, 3), (2, 2), (0, 0)] rfl rfl rfl ?_
      conv => whnf
      repeat' (first
      | exact True.intro
      | (refine SAnd.mk (PLe.refl _) ?_; conv => whnf)
      | (refine SAnd.mk (PLe.of_eq (by simp)) ?_; conv => whnf)
      | (refine SAnd.mk rfl ?_; conv => whnf)
      | (refine SAnd.mk ⟨rfl, rfl⟩ ?_; conv => whnf))
  · rintro ⟨i, hi⟩
    refine codeK_sound good (mu := []) ?_
    conv => whnf
    refine SBool.mk (fun hc1 => ?_) (fun hc1 => ?_)
    · have hil : i < lands.length := by simpa using hc1
      have hs1 := some_at hil lc
      have mi := sub_lt hil
      have wi := wsucc (k := i) (Nat.le_trans (Nat.le_of_lt hil) (Nat.le_trans hl (by decide)))
      have hi3 : i ≤ 1000 := Nat.le_trans (Nat.le_of_lt hil) hl
      have eI : confL areas lands moves (i + 1) = confL areas lands moves i ++ confM areas moves lands[i] i moves.length := by rw [confL, getD_lt hil]
      conv => whnf
      conv => whnf
      repeat' (first
        | (refine SEx.mk _ (by first | exact hs1) ?_; conv => whnf)
        | fail)
      refine ⟨AWp.loop (ι := { k : Nat // k ≤ moves.length }) (fun k => ⟨[(20, .p (I k.1)), (19, .p (I moves.length)), (18, .p (.seq 8 (moves.map mc))), (6, .box 4 0), (5, .p (I i)), (13, .p (I i)), (12, .p (I lands.length)), (11, .p (.seq 4 (lands.map lc))), (0, .p (.v (.func (.yield gl) #[] #[]))), (1, .p (.ref [.seq 4 (lands.map lc)])), (2, .p (.ref [.seq 8 (moves.map mc)])), (3, .p (.ref [.seq 4 (areas.map ac)]))],
    [(4, (202, lc lands[i]))], [(1, (147, 3, (confL areas lands moves i ++ confM areas moves lands[i] i k.1).map cc))], 5, [(2, .box 0 0)], [(3, .loop gl .ready Tryz.f183.ntmps [(2, .box 0 0)] L), (2, .dfr gd), (0, .hold g 70 (.own 1))], []⟩) (fun k => moves.length - k.1) ⟨0, by simp⟩ ?_ ?_⟩
      · skip
        · refine SLe.ofO [(0, 0), (4, 4)] [(1, 1)] [(3, 3), (2, 2), (0, 0)] rfl rfl rfl ?_
          conv => whnf
          repeat' (first
          | exact True.intro
          | (refine SAnd.mk (show _ = (_ : List (List PV)) from by simp [confM]) ?_; conv => whnf)
          | (refine SAnd.mk (PLe.refl _) ?_; conv => whnf)
          | (refine SAnd.mk (PLeL.refl _) ?_; conv => whnf)
          | (refine SAnd.mk (PLe.of_eq (by simp)) ?_; conv => whnf)
          | (refine SAnd.mk rfl ?_; conv => whnf)
          | (refine SAnd.mk ⟨rfl, rfl⟩ ?_; conv => whnf))
      · rintro ⟨k, hk⟩
        refine codeK_sound good (mu := []) ?_
        conv => whnf
        refine SBool.mk (fun hc2 => ?_) (fun hc2 => ?_)
        · have hkl : k < moves.length := by simpa using hc2
          have hs2 := some_at hkl mc
          have mk := sub_lt hkl
          have wk := wsucc (k := k) (Nat.le_trans (Nat.le_of_lt hkl) (Nat.le_trans hm (by decide)))
          have hk3 : k ≤ 1000 := Nat.le_trans (Nat.le_of_lt hkl) hm
          have eK : confM areas moves lands[i] i (k + 1) = confM areas moves lands[i] i k ++ confA areas lands[i] moves[k] i k areas.length := by rw [confM, getD_lt hkl]
          conv => whnf
          conv => whnf
          repeat' (first
            | (refine SEx.mk _ (by first | exact hs2) ?_; conv => whnf)
            | fail)
          refine ⟨AWp.loop (ι := { n : Nat // n ≤ areas.length }) (fun n => ⟨[(27, .p (I n.1)), (26, .p (I areas.length)), (25, .p (.seq 4 (areas.map ac))), (8, .box 5 0), (7, .p (I k)), (20, .p (I k)), (19, .p (I moves.length)), (18, .p (.seq 8 (moves.map mc))), (6, .box 4 0), (5, .p (I i)), (13, .p (I i)), (12, .p (I lands.length)), (11, .p (.seq 4 (lands.map lc))), (0, .p (.v (.func (.yield gl) #[] #[]))), (1, .p (.ref [.seq 4 (lands.map lc)])), (2, .p (.ref [.seq 8 (moves.map mc)])), (3, .p (.ref [.seq 4 (areas.map ac)]))],
    [(5, (95, mc moves[k])), (4, (202, lc lands[i]))], [(1, (147, 3, (confL areas lands moves i ++ confM areas moves lands[i] i k ++ confA areas lands[i] moves[k] i k n.1).map cc))], 6, [(2, .box 0 0)], [(3, .loop gl .ready Tryz.f183.ntmps [(2, .box 0 0)] L), (2, .dfr gd), (0, .hold g 70 (.own 1))], []⟩) (fun n => areas.length - n.1) ⟨0, by simp⟩ ?_ ?_⟩
          · skip
            · refine SLe.ofO [(0, 0), (4, 4), (5, 5)] [(1, 1)] [(3, 3), (2, 2), (0, 0)] rfl rfl rfl ?_
              conv => whnf
              repeat' (first
              | exact True.intro
              | (refine SAnd.mk (show _ = (_ : List (List PV)) from by simp [confA]) ?_; conv => whnf)
              | (refine SAnd.mk (PLe.refl _) ?_; conv => whnf)
              | (refine SAnd.mk (PLeL.refl _) ?_; conv => whnf)
              | (refine SAnd.mk (PLe.of_eq (by simp)) ?_; conv => whnf)
              | (refine SAnd.mk rfl ?_; conv => whnf)
              | (refine SAnd.mk ⟨rfl, rfl⟩ ?_; conv => whnf))
          · rintro ⟨n, hn⟩
            refine codeK_sound good (mu := []) ?_
            conv => whnf
            refine SBool.mk (fun hc3 => ?_) (fun hc3 => ?_)
            · have hnl : n < areas.length := by simpa using hc3
              have hs3 := some_at hnl ac
              have mn := sub_lt hnl
              have wn := wsucc (k := n) (Nat.le_trans (Nat.le_of_lt hnl) (Nat.le_trans ha (by decide)))
              have hag := against_pure (m := m) lands[i] moves[k] areas[n] (hp _ (List.getElem_mem hnl)).1 (hp _ (List.getElem_mem hnl)).2 (hb _ (List.getElem_mem hkl))
              have hg : gA areas lands[i] moves[k] n = againstB lands[i] moves[k] areas[n] := by unfold gA; rw [getD_lt hnl]
              have eN := confA_succ areas lands[i] moves[k] i k n
              have hD := conf_len ha hm hl (l := lands[i]) (x := moves[k]) hi3 hk3 (Nat.le_trans (Nat.le_of_lt hnl) ha)
              rw [hg] at eN
              conv => whnf
              cases hB : againstB lands[i] moves[k] areas[n] with
              | false =>
                rw [hB] at hag eN
                conv => whnf
                repeat' (first
                  | (rw [wn]; conv => whnf)
                  | (refine SEx.mk _ (by first | exact hs3 | exact hag) ?_; conv => whnf)
                  | fail)
                refine ⟨⟨n + 1, hnl⟩, mn, ?_⟩
                skip
                · refine SLe.ofO [(0, 0), (4, 4), (5, 5)] [(1, 1)] [(3, 3), (2, 2), (0, 0)] rfl rfl rfl ?_
                  conv => whnf
                  repeat' (first
                  | exact True.intro
                  | (refine SAnd.mk (show _ = (_ : List (List PV)) from by rw [eN]; simp) ?_; conv => whnf)
                  | (refine SAnd.mk (PLe.refl _) ?_; conv => whnf)
                  | (refine SAnd.mk (PLeL.refl _) ?_; conv => whnf)
                  | (refine SAnd.mk rfl ?_; conv => whnf)
                  | (refine SAnd.mk ⟨rfl, rfl⟩ ?_; conv => whnf))
              | true =>
                rw [hB] at hag eN
                have eD : (confL areas lands moves i ++ confM areas moves lands[i] i k ++ confA areas lands[i] moves[k] i k (n + 1)).map cc = (confL areas lands moves i ++ confM areas moves lands[i] i k ++ confA areas lands[i] moves[k] i k n).map cc ++ [[I i, I k, I n]] := by
                  rw [eN]
                  simp
                obtain ⟨D, hDD⟩ : ∃ D, D = confL areas lands moves i ++ confM areas moves lands[i] i k ++ confA areas lands[i] moves[k] i k n := ⟨_, rfl⟩
                rw [← hDD] at hD eD
                rw [← hDD]
                clear hc1 hc2 hc3 eN eK eI
                conv => whnf
                repeat' (first
                  | (refine SEx.mk _ (by first | exact hs3 | exact hag) ?_; conv => whnf)
                  | (refine SAnd.mk (by first | exact rfl | kernel_rfl | omega | decide | exact hs3 | exact hag) ?_; conv => whnf)
                  | fail)
                refine SRound.of good [] (n := 3) (ps := [7]) rfl hLp hLa hLb ?_
                clear hLp hLa hLb
                conv => whnf
                refine SAnd.mk rfl ?_
                conv => whnf
                refine codeK_sound goodQ (mu := []) ?_
                conv => whnf
                repeat' (first
                  | (refine SAnd.mk ⟨by intro c hc; simp at hc; first | (subst hc; rfl) | ((repeat' (rcases hc with rfl | hc)) <;> first | rfl | (subst hc; rfl)), by (simp; first | done | omega), by (simp; first | done | omega)⟩ ?_; conv => whnf)
                  | (refine SAnd.mk (by first | exact rfl | kernel_rfl | omega | decide) ?_; conv => whnf)
                  | fail)
                refine ⟨⟨n + 1, hnl⟩, mn, ?_⟩
                skip
                · refine SLe.ofO [(0, 0), (4, 4), (5, 5)] [(1, 8)] [(3, 3), (2, 2), (0, 0)] rfl rfl rfl ?_
                  conv => whnf
                  repeat' (first
                  | exact True.intro
                  | (refine SAnd.mk (PLe.of_eq (congrArg I wn)) ?_; conv => whnf)
                  | (refine SAnd.mk (show _ = (_ : List (List PV)) from by rw [eD]) ?_; conv => whnf)
                  | (refine SAnd.mk (PLe.refl _) ?_; conv => whnf)
                  | (refine SAnd.mk (PLeL.refl _) ?_; conv => whnf)
                  | (refine SAnd.mk rfl ?_; conv => whnf)
                  | (refine SAnd.mk ⟨rfl, rfl⟩ ?_; conv => whnf))
            · have : n = areas.length := by simp at hc3; omega
              subst this
              conv => whnf
              repeat' (first
                | (rw [wk]; conv => whnf)
                | fail)
              refine ⟨⟨k + 1, hkl⟩, mk, ?_⟩
              skip
              · refine SLe.ofO [(0, 0), (4, 4)] [(1, 1)] [(3, 3), (2, 2), (0, 0)] rfl rfl rfl ?_
                conv => whnf
                repeat' (first
                | exact True.intro
                | (refine SAnd.mk (show _ = (_ : List (List PV)) from by rw [eK, List.append_assoc]) ?_; conv => whnf)
                | (refine SAnd.mk (PLe.refl _) ?_; conv => whnf)
                | (refine SAnd.mk (PLeL.refl _) ?_; conv => whnf)
                | (refine SAnd.mk rfl ?_; conv => whnf)
                | (refine SAnd.mk ⟨rfl, rfl⟩ ?_; conv => whnf))
        · have : k = moves.length := by simp at hc2; omega
          subst this
          conv => whnf
          repeat' (first
            | (rw [wi]; conv => whnf)
            | fail)
          refine ⟨⟨i + 1, hil⟩, mi, ?_⟩
          skip
          · refine SLe.ofO [(0, 0)] [(1, 1)] [(3, 3), (2, 2), (0, 0)] rfl rfl rfl ?_
            conv => whnf
            repeat' (first
            | exact True.intro
            | (refine SAnd.mk (show _ = (_ : List (List PV)) from by rw [eI]) ?_; conv => whnf)
            | (refine SAnd.mk (PLe.refl _) ?_; conv => whnf)
            | (refine SAnd.mk rfl ?_; conv => whnf)
            | (refine SAnd.mk ⟨rfl, rfl⟩ ?_; conv => whnf))
    · have : i = lands.length := by simp at hc1; omega
      subst this
      conv => whnf
      repeat' (first
        | (refine SAnd.mk (by first | exact rfl | kernel_rfl | omega | decide) ?_; conv => whnf)
        | fail)
      refine ⟨_, SLe.refl, ?_⟩
      conv => whnf
      repeat' (first
        | (refine SAnd.mk (by first | exact rfl | kernel_rfl | omega | decide) ?_; conv => whnf)
        | fail)
      exact ⟨PLe.refl _⟩
theorem collect_pure {m : Int} (areas : List Ar) (lands : List Ld) (moves : List Mv) (ha : areas.length ≤ 1000) (hl : lands.length ≤ 1000) (hm : moves.length ≤ 1000) (hp : ∀ a ∈ areas, a.poly.length ≤ 1000 ∧ ∀ q ∈ a.poly, q.Fit) (hb : ∀ x ∈ moves, x.box.Fit) :
    APure (C m) 126 [.fn 184 [.ref [.seq 4 (lands.map lc)], .ref [.seq 8 (moves.map mc)], .ref [.seq 4 (areas.map ac)]]] (.seq 3 ((conf areas lands moves).map cc)) := by
  have h1 := appendSeq_pure (m := m) areas lands moves ha hl hm hp hb
  refine APure.of_body good [] (fn := Tryz.f126) (by kernel_rfl) (by kernel_rfl) rfl rfl (by kernel_rfl) rfl (by kernel_rfl) ?_
  conv => whnf
  repeat' (first
    | (refine SEx.mk _ (by first | exact h1) ?_; conv => whnf)
    | fail)
  exact ⟨PLe.refl _⟩
end Go.Proofs.Ab.Area
end
section
/- Scenes; Conflicts and Permitted. -/
set_option maxRecDepth 100000
set_option linter.unusedVariables false
set_option linter.unusedSimpArgs false
namespace Go.Proofs.Ab.Area
open Go Go.RowKit Go.Proofs.Ab
theorem isEmpty_app {α : Type} (a b : List α) : (a ++ b).isEmpty = (a.isEmpty && b.isEmpty) := by cases a <;> simp
theorem namedF_zero : ∀ {l : List (ByteArray × Int)} {known : List ByteArray}, namedF known l = 0 → ∀ x ∈ l, x.2 = 0
  | [], _, _, x, hx => by cases hx
  | y :: l, known, h, x, hx => by
    have e : namedF known (y :: l) = if firstOf [if nameB y.1 then 0 else 8, if knownB known y.1 then 9 else 0, y.2] = 0 then namedF (known ++ [y.1]) l else firstOf [if nameB y.1 then 0 else 8, if knownB known y.1 then 9 else 0, y.2] := rfl
    rw [e] at h
    by_cases h0 : firstOf [if nameB y.1 then 0 else 8, if knownB known y.1 then 9 else 0, y.2] = 0
    · rw [if_pos h0] at h
      rcases List.mem_cons.1 hx with rfl | hx
      · rw [firstOf_zero, firstOf_zero, firstOf_zero] at h0
        exact h0.2.2.1
      · exact namedF_zero h x hx
    · rw [if_neg h0] at h
      exact absurd h h0
theorem namedE_zero {most : Int} {l : List (ByteArray × Int)} (h : namedE most l = 0) : l.length ≤ most ∧ ∀ x ∈ l, x.2 = 0 := by
  unfold namedE at h
  split at h
  · cases h
  · exact ⟨by omega, namedF_zero h⟩
structure Scene (l : List Ar) (x : List Ld) (y : List Mv) : Prop where
  al : l.length ≤ 16
  ll : x.length ≤ 32
  ml : y.length ≤ 32
  ap : ∀ a ∈ l, a.poly.length ≤ 1000 ∧ ∀ q ∈ a.poly, q.Fit
  mb : ∀ z ∈ y, z.box.Fit
theorem areas_ok {l : List Ar} (h : areasE l = 0) : l.length ≤ 16 ∧ ∀ a ∈ l, areaE a = 0 := by
  obtain ⟨h1, h2⟩ := namedE_zero h
  rw [List.length_map] at h1
  exact ⟨by omega, fun a ha => h2 _ (List.mem_map_of_mem (f := fun a : Ar => (a.name, areaE a)) ha)⟩
theorem area_fit {a : Ar} (h : areaE a = 0) : a.poly.length ≤ 1000 ∧ ∀ q ∈ a.poly, q.Fit := by
  unfold areaE at h
  rw [firstOf_zero, firstOf_zero, firstOf_zero] at h
  have := poly_fit h.2.2.1
  exact ⟨by omega, this.2⟩
theorem lands_ok {l : List Ld} (h : landsE l = 0) : l.length ≤ 32 ∧ ∀ a ∈ l, landE a = 0 := by
  obtain ⟨h1, h2⟩ := namedE_zero h
  rw [List.length_map] at h1
  exact ⟨by omega, fun a ha => h2 _ (List.mem_map_of_mem (f := fun a : Ld => (a.name, landE a)) ha)⟩
theorem moves_ok {l : List Mv} (h : movesE l = 0) : l.length ≤ 32 ∧ ∀ a ∈ l, moveE a = 0 := by
  obtain ⟨h1, h2⟩ := namedE_zero h
  rw [List.length_map] at h1
  exact ⟨by omega, fun a ha => h2 _ (List.mem_map_of_mem (f := fun a : Mv => (a.name, moveE a)) ha)⟩
theorem move_fit {x : Mv} (h : moveE x = 0) : x.box.Fit := by
  unfold moveE at h
  rw [firstOf_zero, firstOf_zero] at h
  exact box_fit h.2.1
theorem scene_ok {l : List Ar} {x : List Ld} {y : List Mv} (h : sceneE l x y = 0) : Scene l x y := by
  unfold sceneE at h
  rw [firstOf_zero, firstOf_zero, firstOf_zero] at h
  have h1 := areas_ok h.1
  have h2 := lands_ok h.2.1
  have h3 := moves_ok h.2.2.1
  exact ⟨h1.1, h2.1, h3.1, fun a ha => area_fit (h1.2 a ha), fun z hz => move_fit (h3.2 z hz)⟩
def conflictsV (l : List Ar) (x : List Ld) (y : List Mv) : PV := if sceneE l x y = 0 then .seq 3 ((conf l x y).map cc) else nilS
theorem Conflicts_pure {m : Int} (l : List Ar) (x : List Ld) (y : List Mv) (hl : l.length ≤ 1000000) (hp : l.length ≤ 16 → ∀ a ∈ l, a.poly.length ≤ 1000) (hx : x.length ≤ 1000000) (hy : y.length ≤ 1000000) :
    APure (C m) 41 [.seq 4 (l.map ac), .seq 4 (x.map lc), .seq 8 (y.map mc)] (.tup [conflictsV l x y, I (sceneE l x y)]) := by
  by_cases hE : sceneE l x y = 0
  · have ok := scene_ok hE
    unfold conflictsV
    rw [if_pos hE]
    have hsc := checkScene_pure (m := m) l x y hl hp hx hy
    rw [hE] at hsc ⊢
    refine APure.of_body good [] (fn := Tryz.f41) (by kernel_rfl) (by kernel_rfl) rfl rfl (by kernel_rfl) rfl (by kernel_rfl) ?_
    conv => whnf
    repeat' (first
      | (refine SBool.mk (fun _ => ?_) (fun h => absurd (of_decide_eq_true rfl) h); conv => whnf)
      | (refine SEx.mk _ (by first | exact hsc | exact conflicts_pure l x y | exact collect_pure l x y (Nat.le_trans ok.al (by decide)) (Nat.le_trans ok.ll (by decide)) (Nat.le_trans ok.ml (by decide)) ok.ap ok.mb) ?_; conv => whnf)
      | fail)
    all_goals first
      | exact ⟨PLe.refl _⟩
      | exact absurd rfl (by assumption)
  · unfold conflictsV
    rw [if_neg hE]
    refine APure.of_body good [] (fn := Tryz.f41) (by kernel_rfl) (by kernel_rfl) rfl rfl (by kernel_rfl) rfl (by kernel_rfl) ?_
    conv => whnf
    repeat' (first
      | (refine SBool.mk (fun h => ?_) (fun h => ?_) <;> conv => whnf)
      | (refine SEx.mk _ (by first | exact checkScene_pure l x y hl hp hx hy) ?_; conv => whnf)
      | fail)
    · exact absurd (by assumption) hE
    · exact ⟨PLe.refl _⟩
theorem confA_nil {areas : List Ar} {l : Ld} {x : Mv} (i k : Nat) : ∀ n, (confA areas l x i k n).isEmpty = !(List.range n).any (gA areas l x)
  | 0 => rfl
  | n + 1 => by
    rw [confA_succ, range_any, isEmpty_app, confA_nil i k n, Bool.not_or]
    cases gA areas l x n <;> rfl
theorem confM_nil {areas : List Ar} {moves : List Mv} {l : Ld} (i : Nat) : ∀ k, (confM areas moves l i k).isEmpty = !(List.range k).any (gM areas moves l)
  | 0 => rfl
  | k + 1 => by
    rw [confM, range_any, isEmpty_app, confM_nil i k, Bool.not_or, confA_nil]
    rfl
theorem confL_nil {areas : List Ar} {lands : List Ld} {moves : List Mv} : ∀ i, (confL areas lands moves i).isEmpty = !(List.range i).any (gL areas lands moves)
  | 0 => rfl
  | i + 1 => by
    rw [confL, range_any, isEmpty_app, confL_nil i, Bool.not_or, confM_nil]
    rfl
theorem permB_eq (areas : List Ar) (lands : List Ld) (x : Mv) : permB areas lands x = !(List.range lands.length).any (gL areas lands [x]) := confL_nil lands.length
def permE (l : List Ar) (x : List Ld) (y : Mv) : Int := sceneE l x [y]
def permR (l : List Ar) (x : List Ld) (y : Mv) : Bool := if permE l x y = 0 then permB l x y else false
theorem Permitted_pure {m : Int} (l : List Ar) (x : List Ld) (y : Mv) (hl : l.length ≤ 1000000) (hp : l.length ≤ 16 → ∀ a ∈ l, a.poly.length ≤ 1000) (hx : x.length ≤ 1000000) :
    APure (C m) 55 [.seq 4 (l.map ac), .seq 4 (x.map lc), .agg (mc y)] (.tup [Bo (permR l x y), I (permE l x y)]) := by
  have hsc := checkScene_pure (m := m) l x [y] hl hp hx (by simp)
  by_cases hE : permE l x y = 0
  · have ok := scene_ok hE
    have hE' : sceneE l x [y] = 0 := hE
    have hpm := permitted_pure (m := m) l x y (Nat.le_trans ok.al (by decide)) (Nat.le_trans ok.ll (by decide)) ok.ap (ok.mb y (by simp))
    rw [← permB_eq] at hpm
    unfold permR
    rw [if_pos hE, hE]
    rw [hE'] at hsc
    refine APure.of_body good [] (fn := Tryz.f55) (by kernel_rfl) (by kernel_rfl) rfl rfl (by kernel_rfl) rfl (by kernel_rfl) ?_
    conv => whnf
    repeat' (first
      | (refine SBool.mk (fun _ => ?_) (fun h => absurd (of_decide_eq_true rfl) h); conv => whnf)
      | (refine SEx.mk _ (by first | exact hsc | exact hpm) ?_; conv => whnf)
      | fail)
    all_goals first
      | exact ⟨PLe.refl _⟩
      | exact absurd rfl (by assumption)
  · have hE' : ¬ sceneE l x [y] = 0 := hE
    unfold permR
    rw [if_neg hE]
    refine APure.of_body good [] (fn := Tryz.f55) (by kernel_rfl) (by kernel_rfl) rfl rfl (by kernel_rfl) rfl (by kernel_rfl) ?_
    conv => whnf
    repeat' (first
      | (refine SBool.mk (fun h => ?_) (fun h => ?_) <;> conv => whnf)
      | (refine SEx.mk _ (by first | exact hsc) ?_; conv => whnf)
      | fail)
    · exact absurd (by assumption) hE'
    · exact ⟨PLe.refl _⟩
end Go.Proofs.Ab.Area
end
section
namespace Go.Proofs
open Go.Shelf
def Tryz.lays156_ren : Go.Shelf.Ren := ⟨fun | 156 => 162 | 165 => 198 | 166 => 199 | 169 => 200 | 240 => 230 | 241 => 231 | 276 => 252 | 277 => 253 | n => n, fun | 31 => 49 | 9 => 9 | 3 => 3 | 4 => 4 | 0 => 0 | 20 => 20 | 72 => 285 | 76 => 289 | 70 => 282 | 37 => 283 | 75 => 288 | 127 => 309 | 164 => 324 | 5 => 5 | 80 => 186 | n => n, fun | n => n⟩
theorem Tryz.lays156 : Go.Proofs.Lays.n156 Tryz.prog Tryz.lays156_ren := {
  mixed := by kernel_rfl
  f156 := Tryz.func162.trans (congrArg some (by kernel_rfl))
  f165 := Tryz.func198.trans (congrArg some (by kernel_rfl))
  f166 := Tryz.func199.trans (congrArg some (by kernel_rfl))
  f169 := Tryz.func200.trans (congrArg some (by kernel_rfl))
  f240 := Tryz.func230.trans (congrArg some (by kernel_rfl))
  f241 := Tryz.func231.trans (congrArg some (by kernel_rfl))
  f276 := Tryz.func252.trans (congrArg some (by kernel_rfl))
  f277 := Tryz.func253.trans (congrArg some (by kernel_rfl))
  t0 := Tryz.underlying0
  a0 := Tryz.isAgg0
  z0 := Tryz.sizeOf0
  v0 := Tryz.zeroValue0
  t3 := Tryz.underlying3
  a3 := Tryz.isAgg3
  z3 := Tryz.sizeOf3
  v3 := Tryz.zeroValue3
  t4 := Tryz.underlying4
  a4 := Tryz.isAgg4
  z4 := Tryz.sizeOf4
  v4 := Tryz.zeroValue4
  t9 := Tryz.underlying9
  a9 := Tryz.isAgg9
  z9 := Tryz.sizeOf9
  v9 := Tryz.zeroValue9
  t20 := Tryz.underlying20
  a20 := Tryz.isAgg20
  z20 := Tryz.sizeOf20
  v20 := Tryz.zeroValue20
  t31 := Tryz.underlying49
  a31 := Tryz.isAgg49
  z31 := Tryz.sizeOf49
  v31 := Tryz.zeroValue49
  t37 := Tryz.underlying283
  a37 := Tryz.isAgg283
  z37 := Tryz.sizeOf283
  v37 := Tryz.zeroValue283
  t70 := Tryz.underlying282
  a70 := Tryz.isAgg282
  z70 := Tryz.sizeOf282
  v70 := Tryz.zeroValue282
  t72 := Tryz.underlying285
  a72 := Tryz.isAgg285
  z72 := Tryz.sizeOf285
  v72 := Tryz.zeroValue285
  t75 := Tryz.underlying288
  a75 := Tryz.isAgg288
  z75 := Tryz.sizeOf288
  v75 := Tryz.zeroValue288
  t76 := Tryz.underlying289
  a76 := Tryz.isAgg289
  z76 := Tryz.sizeOf289
  v76 := Tryz.zeroValue289
  t127 := Tryz.underlying309
  a127 := Tryz.isAgg309
  z127 := Tryz.sizeOf309
  v127 := Tryz.zeroValue309
  t164 := Tryz.underlying324
  a164 := Tryz.isAgg324
  z164 := Tryz.sizeOf324
  v164 := Tryz.zeroValue324 }
theorem Tryz.Builder_Extra_156 : Builder.Extra Tryz.prog Tryz.lays156_ren := {
  sizeBuilder := by kernel_rfl
  liesBuilder := by kernel_rfl
  t5 := Tryz.underlying5
  a5 := Tryz.isAgg5
  z5 := Tryz.sizeOf5
  v5 := Tryz.zeroValue5
  infoByte := by kernel_rfl
  cellsByte := by kernel_rfl
  sizeByte := by kernel_rfl
  neB5 := by decide }
open Go.RowKit in
theorem Tryz.strings_Join_none (a : Option Addr) (c : Nat) (sep : ByteArray) (w : World) :
    Calls Tryz.prog 162 #[.slice a 0 c, .string sep] w fun e w' => e = .returned (.string ⟨#[]⟩) ∧ w' = w := Any.strings_Join_none Tryz.lays156 Tryz.Builder_Extra_156 a c sep w
open Go.RowKit in
theorem Tryz.strings_Join (bk o c : Nat) (xs : List ByteArray) (sep : ByteArray) (w : World) (hcells : ∀ (j : Nat) x, xs[j]? = some x → w.cell? ⟨bk, o + j, none⟩ = some (.string x)) (hbk : bk < w.heap.size) (hN : xs.length ≤ 140737488355328) (hcap : xs.length ≤ c) (hlen : (Lib.join (xs.map (·.data.toList)) sep.data.toList).length ≤ 140737488355328) :
    Calls Tryz.prog 162 #[.slice (some ⟨bk, o, none⟩) xs.length c, .string sep] w fun e w' => e = .returned (.string ⟨(Lib.join (xs.map (·.data.toList)) sep.data.toList).toArray⟩) ∧ Below w.heap.size w w' := Any.strings_Join Tryz.lays156 Tryz.Builder_Extra_156 bk o c xs sep w hcells hbk hN hcap hlen
def Tryz.lays137_ren : Go.Shelf.Ren := ⟨fun | 137 => 203 | 217 => 233 | 266 => 255 | n => n, fun | 9 => 9 | 5 => 5 | 3 => 3 | n => n, fun | n => n⟩
theorem Tryz.lays137 : Go.Proofs.Lays.n137 Tryz.prog Tryz.lays137_ren := {
  mixed := by kernel_rfl
  f137 := Tryz.func203.trans (congrArg some (by kernel_rfl))
  f217 := Tryz.func233.trans (congrArg some (by kernel_rfl))
  f266 := Tryz.func255.trans (congrArg some (by kernel_rfl))
  t3 := Tryz.underlying3
  a3 := Tryz.isAgg3
  z3 := Tryz.sizeOf3
  v3 := Tryz.zeroValue3
  t5 := Tryz.underlying5
  a5 := Tryz.isAgg5
  z5 := Tryz.sizeOf5
  v5 := Tryz.zeroValue5
  t9 := Tryz.underlying9
  a9 := Tryz.isAgg9
  z9 := Tryz.sizeOf9
  v9 := Tryz.zeroValue9 }
open Go.RowKit in
theorem Tryz.strings_IndexByte (s : ByteArray) (c : Int) (w : World) :
    Calls Tryz.prog 203 #[.string s, .int .u8 c] w fun e w' => e = .returned (.int .i64 (Lib.indexByte s.data.toList c.toNat.toUInt8)) ∧ w' = w := Any.strings_IndexByte Tryz.lays137 s c w
def Tryz.lays103_ren : Go.Shelf.Ren := ⟨fun | 103 => 238 | 210 => 260 | 206 => 273 | n => n, fun | 9 => 9 | 4 => 4 | 24 => 247 | 3 => 3 | n => n, fun | n => n⟩
theorem Tryz.lays103 : Go.Proofs.Lays.n103 Tryz.prog Tryz.lays103_ren := {
  mixed := by kernel_rfl
  f103 := Tryz.func238.trans (congrArg some (by kernel_rfl))
  f206 := Tryz.func273.trans (congrArg some (by kernel_rfl))
  f210 := Tryz.func260.trans (congrArg some (by kernel_rfl))
  t3 := Tryz.underlying3
  a3 := Tryz.isAgg3
  z3 := Tryz.sizeOf3
  v3 := Tryz.zeroValue3
  t4 := Tryz.underlying4
  a4 := Tryz.isAgg4
  z4 := Tryz.sizeOf4
  v4 := Tryz.zeroValue4
  t9 := Tryz.underlying9
  a9 := Tryz.isAgg9
  z9 := Tryz.sizeOf9
  v9 := Tryz.zeroValue9
  t24 := Tryz.underlying247
  a24 := Tryz.isAgg247
  z24 := Tryz.sizeOf247
  v24 := Tryz.zeroValue247 }
open Go.RowKit in
theorem Tryz.strings_CutPrefix (s p : ByteArray) (w : World) :
    Calls Tryz.prog 238 #[.string s, .string p] w fun e w' => e = .returned (.tuple #[.string ⟨(Lib.trimPrefix s.data.toList p.data.toList).toArray⟩, .bool (Lib.hasPrefix s.data.toList p.data.toList)]) ∧ w' = w := Any.strings_CutPrefix Tryz.lays103 s p w
def Tryz.lays104_ren : Go.Shelf.Ren := ⟨fun | 104 => 166 | 211 => 204 | 207 => 234 | n => n, fun | 9 => 9 | 4 => 4 | 24 => 247 | 3 => 3 | n => n, fun | n => n⟩
theorem Tryz.lays104 : Go.Proofs.Lays.n104 Tryz.prog Tryz.lays104_ren := {
  mixed := by kernel_rfl
  f104 := Tryz.func166.trans (congrArg some (by kernel_rfl))
  f207 := Tryz.func234.trans (congrArg some (by kernel_rfl))
  f211 := Tryz.func204.trans (congrArg some (by kernel_rfl))
  t3 := Tryz.underlying3
  a3 := Tryz.isAgg3
  z3 := Tryz.sizeOf3
  v3 := Tryz.zeroValue3
  t4 := Tryz.underlying4
  a4 := Tryz.isAgg4
  z4 := Tryz.sizeOf4
  v4 := Tryz.zeroValue4
  t9 := Tryz.underlying9
  a9 := Tryz.isAgg9
  z9 := Tryz.sizeOf9
  v9 := Tryz.zeroValue9
  t24 := Tryz.underlying247
  a24 := Tryz.isAgg247
  z24 := Tryz.sizeOf247
  v24 := Tryz.zeroValue247 }
open Go.RowKit in
theorem Tryz.strings_CutSuffix (s p : ByteArray) (w : World) (hs : s.size ≤ 9223372036854775807) :
    Calls Tryz.prog 166 #[.string s, .string p] w fun e w' => e = .returned (.tuple #[.string ⟨(Lib.trimSuffix s.data.toList p.data.toList).toArray⟩, .bool (Lib.hasSuffix s.data.toList p.data.toList)]) ∧ w' = w := Any.strings_CutSuffix Tryz.lays104 s p w hs
def Tryz.lays122_ren : Go.Shelf.Ren := ⟨fun | 122 => 197 | 215 => 229 | n => n, fun | 3 => 3 | 4 => 4 | n => n, fun | n => n⟩
theorem Tryz.lays122 : Go.Proofs.Lays.n122 Tryz.prog Tryz.lays122_ren := {
  mixed := by kernel_rfl
  f122 := Tryz.func197.trans (congrArg some (by kernel_rfl))
  f215 := Tryz.func229.trans (congrArg some (by kernel_rfl))
  t3 := Tryz.underlying3
  a3 := Tryz.isAgg3
  z3 := Tryz.sizeOf3
  v3 := Tryz.zeroValue3
  t4 := Tryz.underlying4
  a4 := Tryz.isAgg4
  z4 := Tryz.sizeOf4
  v4 := Tryz.zeroValue4 }
open Go.RowKit in
theorem Tryz.cmp_Compare_int (x y : Int) (w : World) :
    Calls Tryz.prog 197 #[.int .i64 x, .int .i64 y] w fun e w' => e = .returned (.int .i64 (Lib.compareInt x y)) ∧ w' = w := Any.cmp_Compare_int Tryz.lays122 x y w
def Tryz.laysM171_ren : Go.Shelf.Ren := ⟨fun | 171 => 201 | 243 => 232 | 246 => 254 | 283 => 265 | 284 => 266 | 285 => 267 | 286 => 268 | 129 => 224 | 317 => 275 | 318 => 276 | 319 => 277 | 320 => 278 | 337 => 280 | 338 => 281 | n => n, fun | 3 => 3 | 9 => 9 | 2 => 2 | 4 => 4 | 171 => 334 | 0 => 0 | 53 => 304 | 37 => 283 | 5 => 5 | 173 => 336 | 212 => 340 | 51 => 302 | 20 => 20 | 213 => 341 | 46 => 274 | 232 => 348 | 233 => 349 | n => n, fun | 17 => 1 | 18 => 4 | 19 => 5 | n => n⟩
theorem Tryz.laysM171 : Go.Proofs.LaysM.n171 Tryz.prog Tryz.laysM171_ren := {
  mixed := by kernel_rfl
  f129 := Tryz.func224.trans (congrArg some (by kernel_rfl))
  f171 := Tryz.func201.trans (congrArg some (by kernel_rfl))
  f243 := Tryz.func232.trans (congrArg some (by kernel_rfl))
  f246 := Tryz.func254.trans (congrArg some (by kernel_rfl))
  f283 := Tryz.func265.trans (congrArg some (by kernel_rfl))
  f284 := Tryz.func266.trans (congrArg some (by kernel_rfl))
  f285 := Tryz.func267.trans (congrArg some (by kernel_rfl))
  f286 := Tryz.func268.trans (congrArg some (by kernel_rfl))
  f317 := Tryz.func275.trans (congrArg some (by kernel_rfl))
  f318 := Tryz.func276.trans (congrArg some (by kernel_rfl))
  f319 := Tryz.func277.trans (congrArg some (by kernel_rfl))
  f320 := Tryz.func278.trans (congrArg some (by kernel_rfl))
  f337 := Tryz.func280.trans (congrArg some (by kernel_rfl))
  f338 := Tryz.func281.trans (congrArg some (by kernel_rfl))
  t0 := Tryz.underlying0
  a0 := Tryz.isAgg0
  z0 := Tryz.sizeOf0
  v0 := Tryz.zeroValue0
  t2 := Tryz.underlying2
  a2 := Tryz.isAgg2
  z2 := Tryz.sizeOf2
  v2 := Tryz.zeroValue2
  t3 := Tryz.underlying3
  a3 := Tryz.isAgg3
  z3 := Tryz.sizeOf3
  v3 := Tryz.zeroValue3
  t4 := Tryz.underlying4
  a4 := Tryz.isAgg4
  z4 := Tryz.sizeOf4
  v4 := Tryz.zeroValue4
  t5 := Tryz.underlying5
  a5 := Tryz.isAgg5
  z5 := Tryz.sizeOf5
  v5 := Tryz.zeroValue5
  t9 := Tryz.underlying9
  a9 := Tryz.isAgg9
  z9 := Tryz.sizeOf9
  v9 := Tryz.zeroValue9
  t20 := Tryz.underlying20
  a20 := Tryz.isAgg20
  z20 := Tryz.sizeOf20
  v20 := Tryz.zeroValue20
  t37 := Tryz.underlying283
  a37 := Tryz.isAgg283
  z37 := Tryz.sizeOf283
  v37 := Tryz.zeroValue283
  t46 := Tryz.underlying274
  a46 := Tryz.isAgg274
  z46 := Tryz.sizeOf274
  v46 := Tryz.zeroValue274
  t51 := Tryz.underlying302
  a51 := Tryz.isAgg302
  z51 := Tryz.sizeOf302
  v51 := Tryz.zeroValue302
  t53 := Tryz.underlying304
  a53 := Tryz.isAgg304
  z53 := Tryz.sizeOf304
  v53 := Tryz.zeroValue304
  t171 := Tryz.underlying334
  a171 := Tryz.isAgg334
  z171 := Tryz.sizeOf334
  v171 := Tryz.zeroValue334
  t173 := Tryz.underlying336
  a173 := Tryz.isAgg336
  z173 := Tryz.sizeOf336
  v173 := Tryz.zeroValue336
  t212 := Tryz.underlying340
  a212 := Tryz.isAgg340
  z212 := Tryz.sizeOf340
  v212 := Tryz.zeroValue340
  t213 := Tryz.underlying341
  a213 := Tryz.isAgg341
  z213 := Tryz.sizeOf341
  t232 := Tryz.underlying348
  a232 := Tryz.isAgg348
  z232 := Tryz.sizeOf348
  v232 := Tryz.zeroValue348
  t233 := Tryz.underlying349
  a233 := Tryz.isAgg349
  z233 := Tryz.sizeOf349
  v233 := Tryz.zeroValue349
  g17 := by kernel_rfl
  g18 := by kernel_rfl
  g19 := by kernel_rfl
  i0 := by kernel_rfl
  i2 := by kernel_rfl
  i3 := by kernel_rfl
  i4 := by kernel_rfl
  i5 := by kernel_rfl
  i9 := by kernel_rfl
  i20 := by kernel_rfl
  i37 := by kernel_rfl
  i46 := by kernel_rfl
  i51 := by kernel_rfl
  i53 := by kernel_rfl
  i171 := by kernel_rfl
  i173 := by kernel_rfl
  i212 := by kernel_rfl
  i232 := by kernel_rfl
  i233 := by kernel_rfl
  m17 := by kernel_rfl
  m18 := by kernel_rfl
  m19 := by kernel_rfl }
open Go.RowKit Go.Sort Go.Lib in
theorem Tryz.strconv_Itoa (n : Int) (h0 : -9223372036854775808 ≤ n) (h1 : n ≤ 9223372036854775807) (w : World) (htab : Lib.TabIs Tryz.prog w "internal/strconv.uint64pow10" .u64 Lib.pow10Tab) :
    Calls Tryz.prog 201 #[.int .i64 n] w fun e w' => e = .returned (.string ⟨(Lib.itoa n).toArray⟩) ∧ ∃ k os, w' = grow (w.drewN k) os := Any.strconv_Itoa Tryz.laysM171 n h0 h1 w htab
def Tryz.lays146_ren : Go.Shelf.Ren := ⟨fun | 146 => 167 | 221 => 205 | 268 => 235 | 138 => 236 | 143 => 237 | 195 => 256 | 197 => 257 | 218 => 258 | 219 => 259 | 260 => 269 | 217 => 233 | 225 => 270 | 224 => 271 | 267 => 272 | 266 => 255 | 314 => 279 | n => n, fun | 9 => 9 | 31 => 49 | 3 => 3 | 4 => 4 | 0 => 0 | 105 => 328 | 21 => 21 | 5 => 5 | 46 => 274 | 119 => 342 | 139 => 345 | 138 => 344 | 146 => 346 | 51 => 302 | n => n, fun | 1 => 0 | 3 => 2 | 4 => 3 | n => n⟩
theorem Tryz.lays146 : Go.Proofs.Lays.n146 Tryz.prog Tryz.lays146_ren := {
  mixed := by kernel_rfl
  f138 := Tryz.func236.trans (congrArg some (by kernel_rfl))
  f143 := Tryz.func237.trans (congrArg some (by kernel_rfl))
  f146 := Tryz.func167.trans (congrArg some (by kernel_rfl))
  f195 := Tryz.func256.trans (congrArg some (by kernel_rfl))
  f197 := Tryz.func257.trans (congrArg some (by kernel_rfl))
  f217 := Tryz.func233.trans (congrArg some (by kernel_rfl))
  f218 := Tryz.func258.trans (congrArg some (by kernel_rfl))
  f219 := Tryz.func259.trans (congrArg some (by kernel_rfl))
  f221 := Tryz.func205.trans (congrArg some (by kernel_rfl))
  f224 := Tryz.func271.trans (congrArg some (by kernel_rfl))
  f225 := Tryz.func270.trans (congrArg some (by kernel_rfl))
  f260 := Tryz.func269.trans (congrArg some (by kernel_rfl))
  f266 := Tryz.func255.trans (congrArg some (by kernel_rfl))
  f267 := Tryz.func272.trans (congrArg some (by kernel_rfl))
  f268 := Tryz.func235.trans (congrArg some (by kernel_rfl))
  f314 := Tryz.func279.trans (congrArg some (by kernel_rfl))
  t0 := Tryz.underlying0
  a0 := Tryz.isAgg0
  z0 := Tryz.sizeOf0
  v0 := Tryz.zeroValue0
  t3 := Tryz.underlying3
  a3 := Tryz.isAgg3
  z3 := Tryz.sizeOf3
  v3 := Tryz.zeroValue3
  t4 := Tryz.underlying4
  a4 := Tryz.isAgg4
  z4 := Tryz.sizeOf4
  v4 := Tryz.zeroValue4
  t5 := Tryz.underlying5
  a5 := Tryz.isAgg5
  z5 := Tryz.sizeOf5
  v5 := Tryz.zeroValue5
  t9 := Tryz.underlying9
  a9 := Tryz.isAgg9
  z9 := Tryz.sizeOf9
  v9 := Tryz.zeroValue9
  t21 := Tryz.underlying21
  a21 := Tryz.isAgg21
  z21 := Tryz.sizeOf21
  v21 := Tryz.zeroValue21
  t31 := Tryz.underlying49
  a31 := Tryz.isAgg49
  z31 := Tryz.sizeOf49
  v31 := Tryz.zeroValue49
  t46 := Tryz.underlying274
  a46 := Tryz.isAgg274
  z46 := Tryz.sizeOf274
  v46 := Tryz.zeroValue274
  t51 := Tryz.underlying302
  a51 := Tryz.isAgg302
  z51 := Tryz.sizeOf302
  v51 := Tryz.zeroValue302
  t105 := Tryz.underlying328
  a105 := Tryz.isAgg328
  z105 := Tryz.sizeOf328
  v105 := Tryz.zeroValue328
  t119 := Tryz.underlying342
  a119 := Tryz.isAgg342
  z119 := Tryz.sizeOf342
  t138 := Tryz.underlying344
  a138 := Tryz.isAgg344
  z138 := Tryz.sizeOf344
  v138 := Tryz.zeroValue344
  t139 := Tryz.underlying345
  a139 := Tryz.isAgg345
  z139 := Tryz.sizeOf345
  v139 := Tryz.zeroValue345
  t146 := Tryz.underlying346
  a146 := Tryz.isAgg346
  z146 := Tryz.sizeOf346
  v146 := Tryz.zeroValue346
  g1 := by kernel_rfl
  g3 := by kernel_rfl
  g4 := by kernel_rfl }
open Go.RowKit Go.Lib in
theorem Tryz.strings_Split (s sep : ByteArray) (m : Int) (w : World) (hs : s.size < 4294967281) (hm : w.cell? ⟨0, 0, none⟩ = some (.int .i64 m)) (h1 : 1 ≤ sep.size) :
    Calls Tryz.prog 167 #[.string s, .string sep] w fun e w' =>
      e = .returned (.slice (some ⟨w.heap.size, 0, none⟩) (Lib.countB s sep + 1) (Lib.countB s sep + 1)) ∧ w' = w.alloc (.cells ((Lib.splitB sep 0 (Lib.countB s sep) s).map Value.string).toArray 9) := Any.strings_Split Tryz.lays146 (by kernel_rfl) s sep m w hs hm h1
end Go.Proofs
end
section
/- The library's functions on strings, as pure calls; Print. -/
set_option maxRecDepth 100000
set_option linter.unusedVariables false
set_option linter.unusedSimpArgs false
namespace Go.Proofs.Ab.Area
open Go Go.RowKit Go.Proofs.Ab
theorem st_inv {w : World} {ok : Nat → Prop} {s : ByteArray} {us : List Value} {cs : List PV} (h : RepL w ok (St s :: cs) us) : ∃ us', us = .string s :: us' ∧ RepL w ok cs us' := by
  obtain ⟨u, us', rfl, h1, h2⟩ := h.uncons
  exact ⟨us', by rw [v_inv h1], h2⟩
theorem pv_inv {w : World} {ok : Nat → Prop} {x : Value} {us : List Value} {cs : List PV} (h : RepL w ok (.v x :: cs) us) : ∃ us', us = x :: us' ∧ RepL w ok cs us' := by
  obtain ⟨u, us', rfl, h1, h2⟩ := h.uncons
  exact ⟨us', by rw [v_inv h1], h2⟩
theorem belowN (w : World) (k : Nat) : Below w.heap.size w (w.drewN k) := by
  exact Go.below_drewN (Below.refl _ _) k
theorem itoa_pure {m : Int} (n : Int) (h0 : -9223372036854775808 ≤ n) (h1 : n ≤ 9223372036854775807) : APure (C m) 201 [I n] (St ⟨(Lib.itoa n).toArray⟩) := by
  refine ⟨⟨Tryz.f201, _, Tryz.func201, by kernel_rfl, rfl⟩, fun w ok us hlt hg hr => ?_⟩
  obtain ⟨us1, rfl, hr1⟩ := pv_inv hr
  obtain rfl := hr1.unnil
  obtain ⟨_, t, f, hh⟩ := hg.2 1 _ rfl
  have htab : Lib.TabIs Tryz.prog w "internal/strconv.uint64pow10" .u64 Lib.pow10Tab := by
    have e : Tryz.prog.globalNamed "internal/strconv.uint64pow10" = some 1 := by kernel_rfl
    simp [Lib.TabIs, World.var?, e, hh]
  refine Calls.mono (P := Tryz.prog) (Tryz.strconv_Itoa n h0 h1 w htab) ?_
  rintro e w' ⟨rfl, k, os, rfl⟩
  refine ⟨_, rfl, ?_, .v _⟩
  refine (belowN w k).trans ⟨rfl, rfl, rfl, by simp [Go.Sort.grow], fun j hj => ?_⟩
  exact Go.Sort.heap_grow_old _ _ (by simpa using hj)
theorem cutPrefix_pure {m : Int} (s p : ByteArray) : APure (C m) 238 [St s, St p] (.tup [St ⟨(Lib.trimPrefix s.data.toList p.data.toList).toArray⟩, Bo (Lib.hasPrefix s.data.toList p.data.toList)]) := by
  refine ⟨⟨Tryz.f238, _, Tryz.func238, by kernel_rfl, rfl⟩, fun w ok us hlt hg hr => ?_⟩
  obtain ⟨us1, rfl, hr1⟩ := st_inv hr
  obtain ⟨us2, rfl, hr2⟩ := st_inv hr1
  obtain rfl := hr2.unnil
  refine Calls.mono (P := Tryz.prog) (Tryz.strings_CutPrefix s p w) ?_
  rintro e w' ⟨rfl, rfl⟩
  exact ⟨_, rfl, Below.refl _ _, .tup _ [_, _] rfl (RepL.cons (.v _) (RepL.cons (.v _) .nil)).2⟩
theorem cutSuffix_pure {m : Int} (s p : ByteArray) (hs : s.size ≤ 9223372036854775807) : APure (C m) 166 [St s, St p] (.tup [St ⟨(Lib.trimSuffix s.data.toList p.data.toList).toArray⟩, Bo (Lib.hasSuffix s.data.toList p.data.toList)]) := by
  refine ⟨⟨Tryz.f166, _, Tryz.func166, by kernel_rfl, rfl⟩, fun w ok us hlt hg hr => ?_⟩
  obtain ⟨us1, rfl, hr1⟩ := st_inv hr
  obtain ⟨us2, rfl, hr2⟩ := st_inv hr1
  obtain rfl := hr2.unnil
  refine Calls.mono (P := Tryz.prog) (Tryz.strings_CutSuffix s p w hs) ?_
  rintro e w' ⟨rfl, rfl⟩
  exact ⟨_, rfl, Below.refl _ _, .tup _ [_, _] rfl (RepL.cons (.v _) (RepL.cons (.v _) .nil)).2⟩
theorem indexByte_pure {m : Int} (s : ByteArray) (c : Int) : APure (C m) 203 [St s, .v (.int .u8 c)] (I (Lib.indexByte s.data.toList c.toNat.toUInt8)) := by
  refine ⟨⟨Tryz.f203, _, Tryz.func203, by kernel_rfl, rfl⟩, fun w ok us hlt hg hr => ?_⟩
  obtain ⟨us1, rfl, hr1⟩ := st_inv hr
  obtain ⟨us2, rfl, hr2⟩ := pv_inv hr1
  obtain rfl := hr2.unnil
  refine Calls.mono (P := Tryz.prog) (Tryz.strings_IndexByte s c w) ?_
  rintro e w' ⟨rfl, rfl⟩
  exact ⟨_, rfl, Below.refl _ _, .v _⟩
abbrev cellsS (xs : List ByteArray) : List (List PV) := xs.map fun x => [St x]
theorem cellsS_flat : ∀ xs : List ByteArray, (cellsS xs).flatten = xs.map St
  | [] => rfl
  | x :: xs => by
    have := cellsS_flat xs
    simp only [cellsS, List.map_cons, List.flatten_cons] at this ⊢
    rw [this]
    rfl
theorem repS {w : World} {ok : Nat → Prop} : ∀ {xs : List ByteArray} {us : List Value}, RepL w ok (xs.map St) us → us = xs.map Value.string
  | [], us, h => by
    have := h.1
    simpa using this
  | x :: xs, us, h => by
    obtain ⟨us, rfl, h2⟩ := st_inv h
    rw [repS h2]
    rfl
theorem repS' {w : World} {ok : Nat → Prop} : ∀ xs : List ByteArray, RepL w ok (xs.map St) (xs.map Value.string)
  | [] => .nil
  | x :: xs => .cons (.v _) (repS' xs)
theorem join_pure {m : Int} (xs : List ByteArray) (sep : ByteArray) (hN : xs.length ≤ 140737488355328) (hlen : (Lib.join (xs.map (·.data.toList)) sep.data.toList).length ≤ 140737488355328) :
    APure (C m) 162 [.seq 1 (cellsS xs), St sep] (St ⟨(Lib.join (xs.map (·.data.toList)) sep.data.toList).toArray⟩) := by
  refine ⟨⟨Tryz.f162, _, Tryz.func162, by kernel_rfl, rfl⟩, fun w ok us hlt hg hr => ?_⟩
  obtain ⟨u, us0, rfl, hu, hrA⟩ := hr.uncons
  obtain ⟨us1, rfl, hr1⟩ := st_inv hrA
  obtain rfl := hr1.unnil
  obtain ⟨A, cap, us, rfl, hcap, hm, hsz, hrep, hA⟩ := seq_inv hu
  rw [cellsS_flat] at hrep
  obtain rfl := repS hrep
  have hl : (cellsS xs).length = xs.length := by simp
  rw [hl] at hcap hA ⊢
  cases xs with
  | nil =>
    refine Calls.mono (P := Tryz.prog) (Tryz.strings_Join_none A cap sep w) ?_
    rintro e w' ⟨rfl, rfl⟩
    exact ⟨_, rfl, Below.refl _ _, .v _⟩
  | cons x xs =>
    obtain ⟨b, o, rfl, hb, hc⟩ := hA (by simp)
    refine Calls.mono (P := Tryz.prog) (Tryz.strings_Join b o cap (x :: xs) sep w (fun j y hj => hc j _ (by rw [List.getElem?_map, hj]; rfl)) (hlt b hb) hN hcap hlen) ?_
    rintro e w' ⟨rfl, hbw⟩
    exact ⟨_, rfl, hbw, .v _⟩
theorem split_pure {m : Int} (s sep : ByteArray) (hs : s.size < 4294967281) (h1 : 1 ≤ sep.size) : APure (C m) 167 [St s, St sep] (.seq 1 (cellsS (Lib.splitB sep 0 (Lib.countB s sep) s))) := by
  refine ⟨⟨Tryz.f167, _, Tryz.func167, by kernel_rfl, rfl⟩, fun w ok us hlt hg hr => ?_⟩
  obtain ⟨us1, rfl, hr1⟩ := st_inv hr
  obtain ⟨us2, rfl, hr2⟩ := st_inv hr1
  obtain rfl := hr2.unnil
  have hm : w.cell? ⟨0, 0, none⟩ = some (.int .i64 m) := by
    obtain ⟨b, o, us, e, hb, hrr, hc⟩ := ref_inv (hg.1 0 [I m] rfl)
    injection e with e
    injection e with e
    injection e with e1 e2
    subst e1; subst e2
    obtain ⟨us, rfl, _⟩ := pv_inv hrr
    exact hc 0 _ rfl
  have hlen := Lib.splitB_all sep h1 0 _ s rfl
  have hcount : Lib.countB s sep + 1 ≤ maxLen := by
    have := Lib.countB_le sep h1 _ s (Nat.le_refl _)
    simp only [maxLen]
    omega
  refine Calls.mono (P := Tryz.prog) (Tryz.strings_Split s sep m w hs hm h1) ?_
  rintro e w' ⟨rfl, rfl⟩
  refine ⟨_, rfl, (Below.refl _ _).alloc (Nat.le_refl _) _, ?_⟩
  have hr2 := repS' (w := w.alloc (.cells ((Lib.splitB sep 0 (Lib.countB s sep) s).map Value.string).toArray 9)) (ok := grow ok w (w.alloc (.cells ((Lib.splitB sep 0 (Lib.countB s sep) s).map Value.string).toArray 9))) (Lib.splitB sep 0 (Lib.countB s sep) s)
  rw [← cellsS_flat] at hr2
  refine .seq 1 _ _ _ _ _ (by simp [hlen]) (Nat.le_refl _) hcount (fun x hx => ?_) hr2.1 hr2.2 (fun _ => ⟨w.heap.size, 0, rfl, .inr ⟨Nat.le_refl _, by simp⟩, fun j u hu => ?_⟩)
  · simp only [cellsS, List.mem_map] at hx
    obtain ⟨y, _, rfl⟩ := hx
    rfl
  · rw [Nat.zero_add, cell_of_row _ w.heap.size j _ 9 (0, 0) (heap_alloc_new w _)]
    simpa using hu
end Go.Proofs.Ab.Area
end
section
/- Clear. -/
set_option maxRecDepth 100000
set_option linter.unusedVariables false
set_option linter.unusedSimpArgs false
namespace Go.Proofs.Ab.Area
open Go Go.RowKit Go.Proofs.Ab
theorem has_pure {m : Int} (a b t : Int) : APure (C m) 129 [.agg [I a, I b], I t] (Bo (hasB a b t)) := by
  refine APure.of_body good [] (fn := Tryz.f129) (by kernel_rfl) (by kernel_rfl) rfl rfl (by kernel_rfl) rfl (by kernel_rfl) ?_
  conv => whnf
  repeat' (first
    | (refine SBool.mk (fun h => ?_) (fun h => ?_) <;> conv => whnf)
    | fail)
  all_goals exact ⟨PLe.of_eq (congrArg Bo (by unfold hasB; first | (rw [decide_eq_true (by omega), decide_eq_true (by omega)]; rfl) | (rw [Bool.and_eq_false_iff.2 (.inl (decide_eq_false (by omega)))]) | (rw [Bool.and_eq_false_iff.2 (.inr (decide_eq_false (by omega)))])))⟩
def hasT (t : Int) (l : Ld) (x : Mv) : Bool := hasB l.lo l.hi t && hasB x.lo x.hi t
def tA (t : Int) (areas : List Ar) (l : Ld) (x : Mv) (j : Nat) : Bool := againstB l x (areas.getD j default) && hasT t l x
def tM (t : Int) (areas : List Ar) (moves : List Mv) (l : Ld) (k : Nat) : Bool := (List.range areas.length).any (tA t areas l (moves.getD k default))
def tL (t : Int) (areas : List Ar) (lands : List Ld) (moves : List Mv) (i : Nat) : Bool := (List.range moves.length).any (tM t areas moves (lands.getD i default))
noncomputable def c44 : Code := Tryz.f44.body.getD .skip
noncomputable def y44 : Code := match pieceAt [1, 1] c44 with | .seq (.seq _ (.block _ (.rangeFunc _ _ _ b))) _ => b | _ => .skip
@[reducible] noncomputable def CQ (m : Int) : Cx := { P := (C m).P, tab := (C m).tab, glob := (C m).glob, inR := true, tabs := (C m).tabs }
theorem look_skip {t : Nat} {v : SV} (pre fr' : List (Nat × SV)) (hp : pre.all (fun p => (look fr' p.1).isNone) = true) (h : look fr' t = some v) : look (pre ++ fr') t = some v := by
  induction pre with
  | nil => exact h
  | cons p pre ih =>
    obtain ⟨k, x⟩ := p
    rw [List.all_cons, Bool.and_eq_true] at hp
    have h2 := ih hp.2
    show look ((k, x) :: (pre ++ fr')) t = some v
    unfold look
    cases hk : Nat.beq k t with
    | true =>
      have := Nat.eq_of_beq_eq_true hk
      subst this
      rw [h] at hp
      exact absurd hp.1 (by simp)
    | false => simpa [hk] using h2
theorem SLe.thin {C : Cx} {nt : Nat} {s : AS} (k : Nat) (fr' : List (Nat × SV)) (he : s.fr = s.fr.take k ++ fr') (hp : (s.fr.take k).all (fun p => (look fr' p.1).isNone) = true) : SLe C nt s ⟨fr', s.bx, s.rw, s.nx, s.sv, s.ob, s.df⟩ :=
  ⟨fun {B ok0 w0 a w E} hS => ⟨E, ⟨hS.defs, hS.size, fun t v hv => hS.fr t v (by rw [he]; exact look_skip _ fr' hp hv), ⟨hS.mem.bx, hS.mem.rw, hS.mem.ob⟩, hS.bb, hS.br, hS.rr, hS.fresh, hS.ok_lt, hS.ok_from, hS.ok_all, hS.hB, hS.below, hS.glob, hS.svs, hS.od⟩⟩⟩
set_option maxHeartbeats 8000000 in
theorem round44 {m : Int} (lands : List Ld) (moves : List Mv) (i k n : Nat) (tick : Int) (hil : i < lands.length) (hkl : k < moves.length) (b1 b2 : Bool)
    (hh1 : APure (C m) 129 [.agg [I lands[i].lo, I lands[i].hi], I tick] (Bo b1)) (hh2 : APure (C m) 129 [.agg [I moves[k].lo, I moves[k].hi], I tick] (Bo b2)) (x4 x5 x6 : Nat × List PV) (sv : List (Nat × SV)) (gl gd nt0 : Nat) (fr0 : List (Nat × SV)) (L : LpC) (Q : Out → AS → Prop)
    (hn : (b1 && b2) = false → Q .normal ⟨[(8, .box 0 0), (9, .box 1 0), (5, .p (.ref [.seq 4 (lands.map lc)])), (6, .p (.ref [.seq 8 (moves.map mc)])), (7, .p (.ref [I tick]))], [(7, (147, [I i, I k, I n])), (6, x6), (5, x5), (4, x4), (0, (4, [Bo false])), (1, (28, [I 0]))], [], 24, sv, [(3, .loop gl .busy nt0 fr0 L), (2, .dfr gd)], []⟩)
    (hr : (b1 && b2) = true → Q .ret ⟨[(8, .box 0 0), (9, .box 1 0), (5, .p (.ref [.seq 4 (lands.map lc)])), (6, .p (.ref [.seq 8 (moves.map mc)])), (7, .p (.ref [I tick]))], [(7, (147, [I i, I k, I n])), (6, x6), (5, x5), (4, x4), (0, (4, [Bo false])), (1, (28, [I 0]))], [], 24, sv, [(3, .loop gl .busy nt0 fr0 L), (2, .dfr gd)], []⟩) :
    AWp (CQ m) Tryz.f44.ntmps y44 Q ⟨[(11, .box 7 0), (27, .p (.agg [I i, I k, I n])), (8, .box 0 0), (9, .box 1 0), (5, .p (.ref [.seq 4 (lands.map lc)])), (6, .p (.ref [.seq 8 (moves.map mc)])), (7, .p (.ref [I tick]))],
      [(7, (147, [I i, I k, I n])), (6, x6), (5, x5), (4, x4), (0, (4, [Bo false])), (1, (28, [I 0]))], [], 8, sv, [(3, .loop gl .busy nt0 fr0 L), (2, .dfr gd)], []⟩ := by
  have hs1 := some_at hil lc
  have hs2 := some_at hkl mc
  refine AWp.post ?_
  refine codeK_sound goodQ (mu := []) ?_
  cases b1
  · skip
    conv => whnf
    repeat' (first
      | (refine SEx.mk _ (by first | exact hs1 | exact hs2 | exact hh1 | exact hh2) ?_; conv => whnf)
      | (refine SAnd.mk (by first | exact rfl | kernel_rfl | omega | decide | exact hs1 | exact hs2 | exact hh1 | exact hh2) ?_; conv => whnf)
      | fail)
    refine ⟨_, SLe.thin 20 _ ?_ ?_, hn rfl⟩
    · rfl
    · rfl
  · cases b2
    · skip
      conv => whnf
      repeat' (first
        | (refine SEx.mk _ (by first | exact hs1 | exact hs2 | exact hh1 | exact hh2) ?_; conv => whnf)
        | (refine SAnd.mk (by first | exact rfl | kernel_rfl | omega | decide | exact hs1 | exact hs2 | exact hh1 | exact hh2) ?_; conv => whnf)
        | fail)
      refine ⟨_, SLe.thin 20 _ ?_ ?_, hn rfl⟩
      · rfl
      · rfl
    · skip
      conv => whnf
      repeat' (first
        | (refine SEx.mk _ (by first | exact hs1 | exact hs2 | exact hh1 | exact hh2) ?_; conv => whnf)
        | (refine SAnd.mk (by first | exact rfl | kernel_rfl | omega | decide | exact hs1 | exact hs2 | exact hh1 | exact hh2) ?_; conv => whnf)
        | fail)
      refine ⟨_, SLe.thin 20 _ ?_ ?_, hr rfl⟩
      · rfl
      · rfl
end Go.Proofs.Ab.Area
end
section
/- Clear's loop. -/
set_option maxRecDepth 100000
set_option linter.unusedVariables false
set_option linter.unusedSimpArgs false
namespace Go.Proofs.Ab.Area
open Go Go.RowKit Go.Proofs.Ab
set_option maxHeartbeats 40000000 in
theorem clear_loop {m : Int} (areas : List Ar) (lands : List Ld) (moves : List Mv) (tick : Int) (ha : areas.length ≤ 1000) (hl : lands.length ≤ 1000) (hm : moves.length ≤ 1000) (hp : ∀ a ∈ areas, a.poly.length ≤ 1000 ∧ ∀ q ∈ a.poly, q.Fit) (hb : ∀ x ∈ moves, x.box.Fit) :
    AWp (C m) Tryz.f44.ntmps (pieceAt [1, 1] c44) (endV m [ResultVar.cell 8 4, ResultVar.cell 9 28] (.tup [Bo (!(List.range lands.length).any (tL tick areas lands moves)), I 0])) ⟨[(0, .p (.seq 4 (areas.map ac))), (5, .p (.ref [.seq 4 (lands.map lc)])), (6, .p (.ref [.seq 8 (moves.map mc)])), (7, .p (.ref [I tick])), (8, .box 0 0), (9, .box 1 0)], [(0, (4, [Bo false])), (1, (28, [I 0]))], [], 2, [], [], []⟩ := by
  have hcf := conflicts_pure (m := m) areas lands moves
  refine codeK_sound good (mu := []) ?_
  conv => whnf
  repeat' (first
    | (refine SEx.mk _ (by first | exact hcf) ?_; conv => whnf)
    | fail)
  refine ⟨AWp.post (AWp.rangeF rfl ?_)⟩
  conv => whnf
  intro gd gl L hLp hLa hLb
  refine ACall.inline good [] (fn := Tryz.f184) (by kernel_rfl) (by kernel_rfl) rfl rfl (by kernel_rfl) rfl (by kernel_rfl) ?_
  conv => whnf
  refine ⟨AWp.loop (ι := { i : Nat // i ≤ lands.length ∧ (List.range i).any (tL tick areas lands moves) = false }) (fun i => ⟨[(13, .p (I i.1)), (12, .p (I lands.length)), (11, .p (.seq 4 (lands.map lc))), (0, .p (.v (.func (.yield gl) #[] #[]))), (1, .p (.ref [.seq 4 (lands.map lc)])), (2, .p (.ref [.seq 8 (moves.map mc)])), (3, .p (.ref [.seq 4 (areas.map ac)]))],
    [(0, (4, [Bo false])), (1, (28, [I 0]))], [], 4, [(8, .box 0 0), (9, .box 1 0), (5, .p (.ref [.seq 4 (lands.map lc)])), (6, .p (.ref [.seq 8 (moves.map mc)])), (7, .p (.ref [I tick]))], [(3, .loop gl .ready Tryz.f44.ntmps [(8, .box 0 0), (9, .box 1 0), (5, .p (.ref [.seq 4 (lands.map lc)])), (6, .p (.ref [.seq 8 (moves.map mc)])), (7, .p (.ref [I tick]))] L), (2, .dfr gd)], []⟩) (fun i => lands.length - i.1) ⟨0, by simp⟩ ?_ ?_⟩
  · skip
    · refine SLe.ofO [(0, 0), (1, 1)] [] [(3, 3), (2, 2)] rfl rfl rfl ?_
      conv => whnf
      repeat' (first
      | exact True.intro
      | (refine SAnd.mk (PLe.refl _) ?_; conv => whnf)
      | (refine SAnd.mk (PLeL.refl _) ?_; conv => whnf)
      | (refine SAnd.mk (PLe.of_eq (by simp)) ?_; conv => whnf)
      | (refine SAnd.mk rfl ?_; conv => whnf)
      | (refine SAnd.mk ⟨rfl, rfl⟩ ?_; conv => whnf))
  · rintro ⟨i, hi, hI⟩
    refine codeK_sound good (mu := []) ?_
    conv => whnf
    refine SBool.mk (fun hc1 => ?_) (fun hc1 => ?_)
    · have hil : i < lands.length := by simpa using hc1
      have hs1 := some_at hil lc
      have mi := sub_lt hil
      have wi := wsucc (k := i) (Nat.le_trans (Nat.le_of_lt hil) (Nat.le_trans hl (by decide)))
      have eI : tL tick areas lands moves i = (List.range moves.length).any (tM tick areas moves lands[i]) := by unfold tL; rw [getD_lt hil]
      conv => whnf
      conv => whnf
      repeat' (first
        | (refine SEx.mk _ (by first | exact hs1) ?_; conv => whnf)
        | fail)
      refine ⟨AWp.loop (ι := { k : Nat // k ≤ moves.length ∧ (List.range k).any (tM tick areas moves lands[i]) = false }) (fun k => ⟨[(20, .p (I k.1)), (19, .p (I moves.length)), (18, .p (.seq 8 (moves.map mc))), (6, .box 4 0), (5, .p (I i)), (13, .p (I i)), (12, .p (I lands.length)), (11, .p (.seq 4 (lands.map lc))), (0, .p (.v (.func (.yield gl) #[] #[]))), (1, .p (.ref [.seq 4 (lands.map lc)])), (2, .p (.ref [.seq 8 (moves.map mc)])), (3, .p (.ref [.seq 4 (areas.map ac)]))],
    [(4, (202, lc lands[i])), (0, (4, [Bo false])), (1, (28, [I 0]))], [], 5, [(8, .box 0 0), (9, .box 1 0), (5, .p (.ref [.seq 4 (lands.map lc)])), (6, .p (.ref [.seq 8 (moves.map mc)])), (7, .p (.ref [I tick]))], [(3, .loop gl .ready Tryz.f44.ntmps [(8, .box 0 0), (9, .box 1 0), (5, .p (.ref [.seq 4 (lands.map lc)])), (6, .p (.ref [.seq 8 (moves.map mc)])), (7, .p (.ref [I tick]))] L), (2, .dfr gd)], []⟩) (fun k => moves.length - k.1) ⟨0, by simp⟩ ?_ ?_⟩
      · skip
        · refine SLe.ofO [(0, 0), (1, 1), (4, 4)] [] [(3, 3), (2, 2)] rfl rfl rfl ?_
          conv => whnf
          repeat' (first
          | exact True.intro
          | (refine SAnd.mk (PLe.refl _) ?_; conv => whnf)
          | (refine SAnd.mk (PLeL.refl _) ?_; conv => whnf)
          | (refine SAnd.mk (PLe.of_eq (by simp)) ?_; conv => whnf)
          | (refine SAnd.mk rfl ?_; conv => whnf)
          | (refine SAnd.mk ⟨rfl, rfl⟩ ?_; conv => whnf))
      · rintro ⟨k, hk, hK⟩
        refine codeK_sound good (mu := []) ?_
        conv => whnf
        refine SBool.mk (fun hc2 => ?_) (fun hc2 => ?_)
        · have hkl : k < moves.length := by simpa using hc2
          have hs2 := some_at hkl mc
          have mk := sub_lt hkl
          have wk := wsucc (k := k) (Nat.le_trans (Nat.le_of_lt hkl) (Nat.le_trans hm (by decide)))
          have eK : tM tick areas moves lands[i] k = (List.range areas.length).any (tA tick areas lands[i] moves[k]) := by unfold tM; rw [getD_lt hkl]
          conv => whnf
          conv => whnf
          repeat' (first
            | (refine SEx.mk _ (by first | exact hs2) ?_; conv => whnf)
            | fail)
          refine ⟨AWp.loop (ι := { n : Nat // n ≤ areas.length ∧ (List.range n).any (tA tick areas lands[i] moves[k]) = false }) (fun n => ⟨[(27, .p (I n.1)), (26, .p (I areas.length)), (25, .p (.seq 4 (areas.map ac))), (8, .box 5 0), (7, .p (I k)), (20, .p (I k)), (19, .p (I moves.length)), (18, .p (.seq 8 (moves.map mc))), (6, .box 4 0), (5, .p (I i)), (13, .p (I i)), (12, .p (I lands.length)), (11, .p (.seq 4 (lands.map lc))), (0, .p (.v (.func (.yield gl) #[] #[]))), (1, .p (.ref [.seq 4 (lands.map lc)])), (2, .p (.ref [.seq 8 (moves.map mc)])), (3, .p (.ref [.seq 4 (areas.map ac)]))],
    [(5, (95, mc moves[k])), (4, (202, lc lands[i])), (0, (4, [Bo false])), (1, (28, [I 0]))], [], 6, [(8, .box 0 0), (9, .box 1 0), (5, .p (.ref [.seq 4 (lands.map lc)])), (6, .p (.ref [.seq 8 (moves.map mc)])), (7, .p (.ref [I tick]))], [(3, .loop gl .ready Tryz.f44.ntmps [(8, .box 0 0), (9, .box 1 0), (5, .p (.ref [.seq 4 (lands.map lc)])), (6, .p (.ref [.seq 8 (moves.map mc)])), (7, .p (.ref [I tick]))] L), (2, .dfr gd)], []⟩) (fun n => areas.length - n.1) ⟨0, by simp⟩ ?_ ?_⟩
          · skip
            · refine SLe.ofO [(0, 0), (1, 1), (4, 4), (5, 5)] [] [(3, 3), (2, 2)] rfl rfl rfl ?_
              conv => whnf
              repeat' (first
              | exact True.intro
              | (refine SAnd.mk (PLe.refl _) ?_; conv => whnf)
              | (refine SAnd.mk (PLeL.refl _) ?_; conv => whnf)
              | (refine SAnd.mk (PLe.of_eq (by simp)) ?_; conv => whnf)
              | (refine SAnd.mk rfl ?_; conv => whnf)
              | (refine SAnd.mk ⟨rfl, rfl⟩ ?_; conv => whnf))
          · rintro ⟨n, hn, hN⟩
            refine codeK_sound good (mu := []) ?_
            conv => whnf
            refine SBool.mk (fun hc3 => ?_) (fun hc3 => ?_)
            · have hnl : n < areas.length := by simpa using hc3
              have hs3 := some_at hnl ac
              have mn := sub_lt hnl
              have wn := wsucc (k := n) (Nat.le_trans (Nat.le_of_lt hnl) (Nat.le_trans ha (by decide)))
              have hag := against_pure (m := m) lands[i] moves[k] areas[n] (hp _ (List.getElem_mem hnl)).1 (hp _ (List.getElem_mem hnl)).2 (hb _ (List.getElem_mem hkl))
              have hh1 := has_pure (m := m) lands[i].lo lands[i].hi tick
              have hh2 := has_pure (m := m) moves[k].lo moves[k].hi tick
              have hg : tA tick areas lands[i] moves[k] n = (againstB lands[i] moves[k] areas[n] && (hasB lands[i].lo lands[i].hi tick && hasB moves[k].lo moves[k].hi tick)) := by unfold tA hasT; rw [getD_lt hnl]
              have nx : tA tick areas lands[i] moves[k] n = false → (List.range (n + 1)).any (tA tick areas lands[i] moves[k]) = false := fun h => by rw [range_any, hN, h]; rfl
              have hres : tA tick areas lands[i] moves[k] n = true → (!(List.range lands.length).any (tL tick areas lands moves)) = false := fun h => by
                rw [range_any_true hil]
                · rfl
                · rw [eI]
                  refine range_any_true hkl ?_
                  rw [eK]
                  exact range_any_true hnl h
              conv => whnf
              cases hB : againstB lands[i] moves[k] areas[n] with
              | false =>
                rw [hB] at hag hg
                conv => whnf
                repeat' (first
                  | (rw [wn]; conv => whnf)
                  | (refine SEx.mk _ (by first | exact hs3 | exact hag) ?_; conv => whnf)
                  | fail)
                refine ⟨⟨n + 1, hnl, nx (by rw [hg]; rfl)⟩, mn, ?_⟩
                skip
                · refine SLe.ofO [(0, 0), (1, 1), (4, 4), (5, 5)] [] [(3, 3), (2, 2)] rfl rfl rfl ?_
                  conv => whnf
                  repeat' (first
                  | exact True.intro
                  | (refine SAnd.mk (PLe.refl _) ?_; conv => whnf)
                  | (refine SAnd.mk (PLeL.refl _) ?_; conv => whnf)
                  | (refine SAnd.mk rfl ?_; conv => whnf)
                  | (refine SAnd.mk ⟨rfl, rfl⟩ ?_; conv => whnf))
              | true =>
                rw [hB] at hag hg
                clear hc1 hc2 hc3 eK eI
                conv => whnf
                repeat' (first
                  | (refine SEx.mk _ (by first | exact hs3 | exact hag) ?_; conv => whnf)
                  | (refine SAnd.mk (by first | exact rfl | kernel_rfl | omega | decide | exact hs3 | exact hag) ?_; conv => whnf)
                  | fail)
                refine SRound.of good [] (n := 3) (ps := [27]) rfl hLp hLa hLb ?_
                clear hLp hLa hLb
                conv => whnf
                refine SAnd.mk rfl ?_
                conv => whnf
                refine round44 lands moves i k n tick hil hkl _ _ hh1 hh2 _ _ _ _ gl gd _ _ L _ (fun hb12 => ?_) (fun hb12 => ?_)
                · conv => whnf
                  conv => whnf
                  repeat' (first
                    | (rw [wn]; conv => whnf)
                    | (refine SAnd.mk (by first | exact rfl | kernel_rfl | omega | decide) ?_; conv => whnf)
                    | fail)
                  refine ⟨⟨n + 1, hnl, nx (by rw [hg, hb12]; rfl)⟩, mn, ?_⟩
                  skip
                  · refine SLe.ofO [(0, 0), (1, 1), (4, 4), (5, 5)] [] [(3, 3), (2, 2)] rfl rfl rfl ?_
                    conv => whnf
                    repeat' (first
                    | exact True.intro
                    | (refine SAnd.mk (PLe.refl _) ?_; conv => whnf)
                    | (refine SAnd.mk (PLeL.refl _) ?_; conv => whnf)
                    | (refine SAnd.mk rfl ?_; conv => whnf)
                    | (refine SAnd.mk ⟨rfl, rfl⟩ ?_; conv => whnf))
                · skip
                  conv => whnf
                  repeat' (first
                    | (refine SAnd.mk (by first | exact rfl | kernel_rfl | omega | decide) ?_; conv => whnf)
                    | fail)
                  refine ⟨_, SLe.refl, ?_⟩
                  conv => whnf
                  repeat' (first
                    | (refine SAnd.mk (by first | exact rfl | kernel_rfl | omega | decide) ?_; conv => whnf)
                    | fail)
                  exact ⟨PLe.of_eq (by rw [hres (by rw [hg, hb12]; rfl)])⟩
            · have : n = areas.length := by simp at hc3; omega
              subst this
              conv => whnf
              repeat' (first
                | (rw [wk]; conv => whnf)
                | fail)
              refine ⟨⟨k + 1, hkl, by rw [range_any, hK, eK, hN]; rfl⟩, mk, ?_⟩
              skip
              · refine SLe.ofO [(0, 0), (1, 1), (4, 4)] [] [(3, 3), (2, 2)] rfl rfl rfl ?_
                conv => whnf
                repeat' (first
                | exact True.intro
                | (refine SAnd.mk (PLe.refl _) ?_; conv => whnf)
                | (refine SAnd.mk (PLeL.refl _) ?_; conv => whnf)
                | (refine SAnd.mk rfl ?_; conv => whnf)
                | (refine SAnd.mk ⟨rfl, rfl⟩ ?_; conv => whnf))
        · have : k = moves.length := by simp at hc2; omega
          subst this
          conv => whnf
          repeat' (first
            | (rw [wi]; conv => whnf)
            | fail)
          refine ⟨⟨i + 1, hil, by rw [range_any, hI, eI, hK]; rfl⟩, mi, ?_⟩
          skip
          · refine SLe.ofO [(0, 0), (1, 1)] [] [(3, 3), (2, 2)] rfl rfl rfl ?_
            conv => whnf
            repeat' (first
            | exact True.intro
            | (refine SAnd.mk (PLe.refl _) ?_; conv => whnf)
            | (refine SAnd.mk (PLeL.refl _) ?_; conv => whnf)
            | (refine SAnd.mk rfl ?_; conv => whnf)
            | (refine SAnd.mk ⟨rfl, rfl⟩ ?_; conv => whnf))
    · have : i = lands.length := by simp at hc1; omega
      subst this
      conv => whnf
      repeat' (first
        | (refine SAnd.mk (by first | exact rfl | kernel_rfl | omega | decide) ?_; conv => whnf)
        | fail)
      refine ⟨_, SLe.refl, ?_⟩
      conv => whnf
      repeat' (first
        | (refine SAnd.mk (by first | exact rfl | kernel_rfl | omega | decide) ?_; conv => whnf)
        | fail)
      exact ⟨PLe.of_eq (by rw [hI]; rfl)⟩
end Go.Proofs.Ab.Area
end
section
/- Usable, Clear: the functions. -/
set_option maxRecDepth 100000
set_option linter.unusedVariables false
set_option linter.unusedSimpArgs false
namespace Go.Proofs.Ab.Area
open Go Go.RowKit Go.Proofs.Ab
theorem holds_ok {l : List Hd} (h : holdsE l = 0) : l.length ≤ 16 ∧ ∀ a ∈ l, ptE a.at_ = 0 := by
  obtain ⟨h1, h2⟩ := namedE_zero h
  rw [List.length_map] at h1
  exact ⟨by omega, fun a ha => h2 _ (List.mem_map_of_mem (f := fun a : Hd => (a.name, ptE a.at_)) ha)⟩
def usableV (l : List Ar) (h : List Hd) (size cat : Int) : PV := if usableE l h size cat = 0 then .seq 1 (words (usableL l h size cat)) else nilS
theorem Usable_pure {m : Int} (l : List Ar) (h : List Hd) (size cat : Int) (hl : l.length ≤ 1000000) (hp : l.length ≤ 16 → ∀ a ∈ l, a.poly.length ≤ 1000) (hhl : h.length ≤ 1000000) :
    APure (C m) 30 [.seq 4 (l.map ac), .seq 3 (h.map hc), I size, I cat] (.tup [usableV l h size cat, I (usableE l h size cat)]) := by
  have hnam := named114 (m := m) (·.name) (fun x => ptE x.at_) 115 116 h 16 hhl (fun x _ => label115 x) (fun _ x hx => holdCheck_pure x)
  by_cases hE : usableE l h size cat = 0
  · have e2 : firstOf [areasE l, holdsE h, sizeE size, catE cat] = 0 := hE
    have e3 := e2
    rw [firstOf_zero, firstOf_zero] at e3
    have oka := areas_ok e3.1
    have okh := holds_ok e3.2.1
    have go := usable_loop (m := m) l h size cat hl hhl (fun a ha => ⟨Nat.le_trans (area_fit (oka.2 a ha)).1 (by decide), (area_fit (oka.2 a ha)).2⟩) (fun x hx => fit_of (okh.2 x hx))
    unfold usableV
    rw [if_pos hE, hE]
    refine APure.of_wp good (fn := Tryz.f30) (by kernel_rfl) (by kernel_rfl) rfl rfl (by kernel_rfl) rfl (by kernel_rfl) ?_
    refine codeN_sound good (mu := []) (n := 2) ?_
    conv => whnf
    repeat' (first
      | (refine SBool.mk (fun h => ?_) (fun h => ?_) <;> conv => whnf)
      | (refine SEx.mk _ (by first | exact CheckAreas_pure l hl hp | exact hnam | exact checkSize_pure _ | exact checkCat_pure _ | exact first4_pure _ _ _ _) ?_; conv => whnf)
      | (refine SAnd.mk (by first | exact rfl | kernel_rfl | omega | decide | exact CheckAreas_pure l hl hp | exact hnam | exact checkSize_pure _ | exact checkCat_pure _ | exact first4_pure _ _ _ _) ?_; conv => whnf)
      | fail)
    · refine ⟨AWp.le ?_ go⟩
      skip
      · refine SLe.of [] [] rfl rfl ?_
        conv => whnf
        repeat' (first
        | exact True.intro
        | (refine SAnd.mk (PLe.refl _) ?_; conv => whnf))
    · exact absurd e2 (by assumption)
  · unfold usableV
    rw [if_neg hE]
    refine APure.of_body good [] (fn := Tryz.f30) (by kernel_rfl) (by kernel_rfl) rfl rfl (by kernel_rfl) rfl (by kernel_rfl) ?_
    conv => whnf
    repeat' (first
      | (refine SBool.mk (fun h => ?_) (fun h => ?_) <;> conv => whnf)
      | (refine SEx.mk _ (by first | exact CheckAreas_pure l hl hp | exact hnam | exact checkSize_pure _ | exact checkCat_pure _ | exact first4_pure _ _ _ _) ?_; conv => whnf)
      | (refine SAnd.mk (by first | exact rfl | kernel_rfl | omega | decide | exact CheckAreas_pure l hl hp | exact hnam | exact checkSize_pure _ | exact checkCat_pure _ | exact first4_pure _ _ _ _) ?_; conv => whnf)
      | fail)
    · exact absurd (by assumption) hE
    · exact ⟨PLe.refl _⟩
def clearE (l : List Ar) (x : List Ld) (y : List Mv) (t : Int) : Int := firstOf [sceneE l x y, within t 0 100000000]
def clearL (l : List Ar) (x : List Ld) (y : List Mv) (t : Int) : Bool := !(List.range x.length).any (tL t l x y)
def clearR (l : List Ar) (x : List Ld) (y : List Mv) (t : Int) : Bool := if clearE l x y t = 0 then clearL l x y t else false
theorem Clear_pure {m : Int} (l : List Ar) (x : List Ld) (y : List Mv) (t : Int) (hl : l.length ≤ 1000000) (hp : l.length ≤ 16 → ∀ a ∈ l, a.poly.length ≤ 1000) (hx : x.length ≤ 1000000) (hy : y.length ≤ 1000000) :
    APure (C m) 44 [.seq 4 (l.map ac), .seq 4 (x.map lc), .seq 8 (y.map mc), I t] (.tup [Bo (clearR l x y t), I (clearE l x y t)]) := by
  have hsc := checkScene_pure (m := m) l x y hl hp hx hy
  by_cases hE : clearE l x y t = 0
  · have e2 : firstOf [sceneE l x y, within t 0 100000000] = 0 := hE
    have e3 := e2
    rw [firstOf_zero] at e3
    have ok := scene_ok e3.1
    have go := clear_loop (m := m) l x y t (Nat.le_trans ok.al (by decide)) (Nat.le_trans ok.ll (by decide)) (Nat.le_trans ok.ml (by decide)) ok.ap ok.mb
    unfold clearR
    rw [if_pos hE, hE]
    refine APure.of_wp good (fn := Tryz.f44) (by kernel_rfl) (by kernel_rfl) rfl rfl (by kernel_rfl) rfl (by kernel_rfl) ?_
    refine codeN_sound good (mu := []) (n := 2) ?_
    conv => whnf
    repeat' (first
      | (refine SBool.mk (fun h => ?_) (fun h => ?_) <;> conv => whnf)
      | (refine SEx.mk _ (by first | exact hsc | exact within_pure _ _ _ | exact first2_pure _ _) ?_; conv => whnf)
      | (refine SAnd.mk (by first | exact rfl | kernel_rfl | omega | decide | exact hsc | exact within_pure _ _ _ | exact first2_pure _ _) ?_; conv => whnf)
      | fail)
    · refine ⟨AWp.le ?_ go⟩
      skip
      · refine SLe.of [(0, 0), (1, 1)] [] rfl rfl ?_
        conv => whnf
        repeat' (first
        | exact True.intro
        | (refine SAnd.mk (PLe.refl _) ?_; conv => whnf)
        | (refine SAnd.mk (PLeL.refl _) ?_; conv => whnf))
    · exact absurd e2 (by assumption)
  · unfold clearR
    rw [if_neg hE]
    refine APure.of_body good [] (fn := Tryz.f44) (by kernel_rfl) (by kernel_rfl) rfl rfl (by kernel_rfl) rfl (by kernel_rfl) ?_
    conv => whnf
    repeat' (first
      | (refine SBool.mk (fun h => ?_) (fun h => ?_) <;> conv => whnf)
      | (refine SEx.mk _ (by first | exact hsc | exact within_pure _ _ _ | exact first2_pure _ _) ?_; conv => whnf)
      | (refine SAnd.mk (by first | exact rfl | kernel_rfl | omega | decide | exact hsc | exact within_pure _ _ _ | exact first2_pure _ _) ?_; conv => whnf)
      | fail)
    · exact absurd (by assumption) hE
    · exact ⟨PLe.refl _⟩
end Go.Proofs.Ab.Area
end
section
/- An area's line. -/
set_option maxRecDepth 100000
set_option linter.unusedVariables false
set_option linter.unusedSimpArgs false
namespace Go.Proofs.Ab.Area
open Go Go.RowKit Go.Proofs.Ab
theorem mapped163 {m : Int} (f : Ar → ByteArray) (g : FuncId) (caps : List PV) (xs : List Ar) (hl : xs.length ≤ 1000000) (h : ∀ x ∈ xs, APure (C m) g (.agg (ac x) :: caps) (St (f x))) :
    APure (C m) 163 [.seq 4 (xs.map ac), .fn g caps] (.seq 1 (xs.map fun x => [St (f x)])) := by
  refine APure.of_body good [] (fn := Tryz.f163) (by kernel_rfl) (by kernel_rfl) rfl rfl (by kernel_rfl) rfl (by kernel_rfl) ?_
  conv => whnf
  refine ⟨AWp.loop (ι := { k : Nat // k ≤ xs.length }) (fun k => ⟨[(10, .p (I k.1)), (9, .p (I xs.length)), (8, .p (.seq 4 (xs.map ac))), (5, .own 0), (1, .p (.fn g caps))], [], [(0, (9, 1, (xs.take k.1).map fun x => [St (f x)]))], 1, [], [], []⟩) (fun k => xs.length - k.1) ⟨0, by simp⟩ ?_ ?_⟩
  · refine SLe.row 5 9 1 ?_
    conv => whnf
    skip
    · refine SLe.of [] [(0, 0)] rfl rfl ?_
      conv => whnf
      repeat' (first
      | exact True.intro
      | (refine SAnd.mk (PLe.refl _) ?_; conv => whnf)
      | (refine SAnd.mk (PLe.of_eq (by simp)) ?_; conv => whnf)
      | (refine SAnd.mk rfl ?_; conv => whnf))
  · rintro ⟨k, hk⟩
    refine codeK_sound good (mu := []) ?_
    conv => whnf
    refine SBool.mk (fun hc => ?_) (fun hc => ?_)
    · have hkl : k < xs.length := by simpa using hc
      have hcall := h xs[k] (List.getElem_mem hkl)
      have hsome : 0 ≤ (k : Int) ∧ (xs.map ac)[((k : Int)).toNat]? = some (ac xs[k]) := ⟨by omega, by show (xs.map ac)[k]? = _; simp [hkl]⟩
      have wk : wrapK IntKind.i64 ((k : Int) + 1) = k + 1 := w64 (by omega)
      conv => whnf
      conv => whnf
      repeat' (first
        | (rw [wk]; conv => whnf)
        | (refine SEx.mk _ (by first | exact hsome | exact hcall) ?_; conv => whnf)
        | (refine SAnd.mk ⟨by intro c hc; simp at hc; first | (subst hc; rfl) | ((repeat' (rcases hc with rfl | hc)) <;> first | rfl | (subst hc; rfl)), by (simp; first | done | omega), by (simp; first | done | omega)⟩ ?_; conv => whnf)
        | fail)
      refine ⟨⟨k + 1, hkl⟩, by simp only; omega, ?_⟩
      skip
      · refine SLe.of [] [(0, 2)] rfl rfl ?_
        conv => whnf
        repeat' (first
        | exact True.intro
        | (refine SAnd.mk ((take_map_succ hkl _).symm) ?_; conv => whnf)
        | (refine SAnd.mk (PLe.refl _) ?_; conv => whnf))
    · conv => whnf
      have : k = xs.length := by simp at hc; omega
      subst this
      exact ⟨PLe.of_eq (by simp)⟩
def itoaB (n : Int) : ByteArray := ⟨(Lib.itoa n).toArray⟩
abbrev bArea : ByteArray := ⟨#[97, 114, 101, 97]⟩
def wordsUpTo (a : Ar) (k : Nat) : List ByteArray := [bArea, a.name, itoaB a.size, itoaB a.cat] ++ (a.poly.take k).flatMap fun q => [itoaB q.x, itoaB q.y]
def wordsA (a : Ar) : List ByteArray := [bArea, a.name, itoaB a.size, itoaB a.cat] ++ a.poly.flatMap fun q => [itoaB q.x, itoaB q.y]
theorem wordsUpTo_succ {a : Ar} {k : Nat} (h : k < a.poly.length) : wordsUpTo a (k + 1) = wordsUpTo a k ++ [itoaB a.poly[k].x, itoaB a.poly[k].y] := by
  unfold wordsUpTo
  rw [List.take_succ_eq_append_getElem h]
  simp only [List.flatMap_append, List.flatMap_cons, List.flatMap_nil, List.append_nil, List.append_assoc]
theorem flat_two : ∀ l : List Pt, (l.flatMap fun q => [itoaB q.x, itoaB q.y]).length = 2 * l.length
  | [] => rfl
  | q :: l => by rw [List.flatMap_cons, List.length_append, flat_two l]; simp; omega
theorem wordsUpTo_len (a : Ar) (k : Nat) : (wordsUpTo a k).length ≤ 4 + 2 * k := by
  unfold wordsUpTo
  rw [List.length_append, flat_two, List.length_take]
  simp only [List.length_cons, List.length_nil]
  omega
def joinB (xs : List ByteArray) (sep : ByteArray) : ByteArray := ⟨(Lib.join (xs.map (·.data.toList)) sep.data.toList).toArray⟩
def lineB (a : Ar) : ByteArray := joinB (wordsA a) ⟨#[32]⟩ ++ ⟨#[10]⟩
theorem add_string {m : Int} (t : TypeId) (a b : ByteArray) (h : a.size + b.size ≤ 9223372036854775807) : ∀ w, (binOp .add t (.string a) (.string b)).run (C m).P w = .ok (.string (a ++ b)) w := by
  intro w
  rw [binOp_string_add]
  exact run_string_add_sum w a b h
attribute [local irreducible] ByteArray.append in
theorem line_pure {m : Int} (a : Ar) (hl : a.poly.length ≤ 1000) (hf : ∀ q ∈ a.poly, q.Fit) (hs : a.size.natAbs ≤ 1000000 ∧ a.cat.natAbs ≤ 1000000)
    (hwl : (Lib.join ((wordsA a).map (·.data.toList)) ((⟨#[32]⟩ : ByteArray).data.toList)).length ≤ 100000000) : APure (C m) 164 [.agg (ac a)] (St (lineB a)) := by
  have hadd : (joinB (wordsA a) ⟨#[32]⟩).size + (⟨#[10]⟩ : ByteArray).size ≤ 9223372036854775807 := by
    simp only [joinB, ByteArray.size, List.size_toArray]
    simp
    simp at hwl
    omega
  have hjo := join_pure (m := m) (wordsA a) ⟨#[32]⟩ (by have := wordsUpTo_len a a.poly.length; unfold wordsUpTo at this; rw [List.take_length] at this; unfold wordsA; omega) (Nat.le_trans hwl (by decide))
  have hlen : (((a.poly.map pc).length : Nat) : Int) = a.poly.length := by simp
  refine APure.of_body good [1014] (fn := Tryz.f164) (by kernel_rfl) (by kernel_rfl) rfl rfl (by kernel_rfl) rfl (by kernel_rfl) ?_
  conv => whnf
  repeat' (first
    | (refine SEx.mk _ (by first | exact itoa_pure a.size (by omega) (by omega) | exact itoa_pure a.cat (by omega) (by omega)) ?_; conv => whnf)
    | (refine SAnd.mk (by first | exact rfl | kernel_rfl | omega | decide | exact itoa_pure a.size (by omega) (by omega) | exact itoa_pure a.cat (by omega) (by omega)) ?_; conv => whnf)
    | fail)
  refine ⟨AWp.loop (ι := { k : Nat // k ≤ a.poly.length }) (fun k => ⟨[(18, .p (I k.1)), (17, .p (I a.poly.length)), (16, .p (.seq 2 (a.poly.map pc))), (1, .p (.ref (ac a))), (3, .own 0)], [], [(0, (9, 1, cellsS (wordsUpTo a k.1)))], 1, [], [], []⟩) (fun k => a.poly.length - k.1) ⟨0, by simp⟩ ?_ ?_⟩
  · skip
    · refine SLe.of [] [(0, 8)] rfl rfl ?_
      conv => whnf
      repeat' (first
      | exact True.intro
      | (refine SAnd.mk (PLe.refl _) ?_; conv => whnf)
      | (refine SAnd.mk (PLe.of_eq (by simp)) ?_; conv => whnf)
      | (refine SAnd.mk rfl ?_; conv => whnf))
  · rintro ⟨k, hk⟩
    refine codeK_sound good (mu := []) ?_
    conv => whnf
    refine SBool.mk (fun hcn => ?_) (fun hcn => ?_)
    · have hkl : k < a.poly.length := by simpa using hcn
      have hs1 := some_at hkl pc
      have mk := sub_lt hkl
      have wk := wsucc (k := k) (by omega)
      have hq := hf _ (List.getElem_mem hkl)
      have hqx := hq.x
      have hqy := hq.y
      have hup := wordsUpTo_succ hkl
      have hul := wordsUpTo_len a k
      have hi1 : APure (C m) 201 [I a.poly[k].x] (St (itoaB a.poly[k].x)) := itoa_pure a.poly[k].x (by omega) (by omega)
      have hi2 : APure (C m) 201 [I a.poly[k].y] (St (itoaB a.poly[k].y)) := itoa_pure a.poly[k].y (by omega) (by omega)
      clear hjo hcn hwl hadd hlen hs hqx hqy hq hf
      generalize itoaB a.poly[k].x = b1 at hi1 hup
      generalize itoaB a.poly[k].y = b2 at hi2 hup
      generalize wordsUpTo a k = ys at hup hul ⊢
      generalize hzz : wordsUpTo a (k + 1) = zs at hup
      conv => whnf
      conv => whnf
      repeat' (first
        | (rw [wk]; conv => whnf)
        | (refine SEx.mk _ (by first | exact hs1 | exact hi1 | exact hi2) ?_; conv => whnf)
        | (refine SAnd.mk ⟨by intro c hc; simp at hc; first | (subst hc; rfl) | ((repeat' (rcases hc with rfl | hc)) <;> first | rfl | (subst hc; rfl)), by (simp; first | done | omega), by (simp; first | done | omega)⟩ ?_; conv => whnf)
        | (refine SAnd.mk (by first | exact rfl | kernel_rfl | omega | decide | exact hs1 | exact hi1 | exact hi2) ?_; conv => whnf)
        | fail)
      refine ⟨⟨k + 1, hkl⟩, mk, ?_⟩
      rw [hzz]
      skip
      · refine SLe.of [] [(0, 10)] rfl rfl ?_
        conv => whnf
        repeat' (first
        | exact True.intro
        | (refine SAnd.mk (show _ = (_ : List (List PV)) from by rw [hup]; simp) ?_; conv => whnf)
        | (refine SAnd.mk (PLe.refl _) ?_; conv => whnf))
    · conv => whnf
      have : k = a.poly.length := by simp at hcn; omega
      subst this
      have hup : wordsUpTo a a.poly.length = wordsA a := by unfold wordsUpTo wordsA; rw [List.take_length]
      rw [hup]
      conv => whnf
      repeat' (first
        | (refine SEx.mk _ (by first | exact hjo | exact add_string _ _ _ hadd) ?_; conv => whnf)
        | fail)
      exact ⟨PLe.refl _⟩
end Go.Proofs.Ab.Area
end
section
/- Print: the lengths of its lines. -/
set_option maxRecDepth 100000
set_option linter.unusedVariables false
set_option linter.unusedSimpArgs false
namespace Go.Proofs.Ab.Area
open Go Go.RowKit Go.Proofs.Ab
theorem itoaB_len (n : Int) (h : n.natAbs ≤ 1000000) : (itoaB n).data.toList.length ≤ 24 := by
  have := Lib.itoa_length_le n (by omega) (by omega)
  simp [itoaB]
  omega
theorem lens_le {n : Nat} : ∀ {l : List (List UInt8)}, (∀ x ∈ l, x.length ≤ n) → Lib.lens l ≤ l.length * n
  | [], _ => by simp [Lib.lens]
  | x :: l, h => by
    have h1 := h x List.mem_cons_self
    have h2 := lens_le (l := l) (fun y hy => h y (List.mem_cons_of_mem _ hy))
    simp only [Lib.lens, List.map_cons, List.sum_cons, List.length_cons, Nat.add_mul, Nat.one_mul] at *
    omega
theorem words_short (a : Ar) (hn : a.name.data.toList.length ≤ 24) (hs : a.size.natAbs ≤ 1000000 ∧ a.cat.natAbs ≤ 1000000) (hf : ∀ q ∈ a.poly, q.Fit) : ∀ w ∈ wordsA a, w.data.toList.length ≤ 24 := by
  intro w hw
  unfold wordsA at hw
  rcases List.mem_append.1 hw with hw | hw
  · simp only [List.mem_cons, List.mem_nil_iff, or_false] at hw
    rcases hw with rfl | rfl | rfl | rfl
    · decide
    · exact hn
    · exact itoaB_len _ hs.1
    · exact itoaB_len _ hs.2
  · obtain ⟨q, hq, hw⟩ := List.mem_flatMap.1 hw
    simp only [List.mem_cons, List.mem_nil_iff, or_false] at hw
    rcases hw with rfl | rfl
    · exact itoaB_len _ (hf q hq).x
    · exact itoaB_len _ (hf q hq).y
theorem wordsA_len (a : Ar) : (wordsA a).length = 4 + 2 * a.poly.length := by
  unfold wordsA
  rw [List.length_append, flat_two]
  rfl
theorem words_len (a : Ar) (hl : a.poly.length ≤ 8) (hn : a.name.data.toList.length ≤ 24) (hs : a.size.natAbs ≤ 1000000 ∧ a.cat.natAbs ≤ 1000000) (hf : ∀ q ∈ a.poly, q.Fit) :
    (Lib.join ((wordsA a).map (·.data.toList)) ((⟨#[32]⟩ : ByteArray).data.toList)).length ≤ 1000 := by
  have h1 := words_short a hn hs hf
  have h2 := wordsA_len a
  generalize wordsA a = ws at h1 h2
  cases ws with
  | nil => exact absurd h2 (by rw [List.length_nil]; omega)
  | cons x xs =>
    simp only [List.map_cons]
    rw [Lib.join_length]
    have := lens_le (n := 24) (l := x.data.toList :: xs.map (·.data.toList)) (fun y hy => by
      rcases List.mem_cons.1 hy with rfl | hy
      · exact h1 x List.mem_cons_self
      · obtain ⟨z, hz, rfl⟩ := List.mem_map.1 hy
        exact h1 z (List.mem_cons_of_mem _ hz))
    simp at this h2 ⊢
    omega
end Go.Proofs.Ab.Area
end
section
/- Print: the function. -/
set_option maxRecDepth 100000
set_option linter.unusedVariables false
set_option linter.unusedSimpArgs false
namespace Go.Proofs.Ab.Area
open Go Go.RowKit Go.Proofs.Ab
def printB (l : List Ar) : ByteArray := joinB (l.map lineB) ⟨#[]⟩
structure Ar.Short (a : Ar) : Prop where
  n : a.name.data.toList.length ≤ 24
  p : a.poly.length ≤ 8
  f : ∀ q ∈ a.poly, q.Fit
  s : a.size.natAbs ≤ 1000000 ∧ a.cat.natAbs ≤ 1000000
theorem lineB_len (a : Ar) (h : a.Short) : (lineB a).data.toList.length ≤ 1001 := by
  have := words_len a h.p h.n h.s h.f
  simp only [lineB, joinB, ByteArray.data_append, Array.toList_append, List.length_append, List.toList_toArray] at this ⊢
  simp
  simpa using this
theorem print_len (xs : List Ar) (hl : xs.length ≤ 16) (hf : ∀ x ∈ xs, x.Short) : (Lib.join ((xs.map lineB).map (·.data.toList)) ((⟨#[]⟩ : ByteArray).data.toList)).length ≤ 60000 := by
  cases xs with
  | nil => simp [Lib.join, List.intercalate]
  | cons x xs =>
    simp only [List.map_cons]
    rw [Lib.join_length]
    have := lens_le (n := 1001) (l := (lineB x).data.toList :: (xs.map lineB).map (·.data.toList)) (fun y hy => by
      rcases List.mem_cons.1 hy with rfl | hy
      · exact lineB_len x (hf x List.mem_cons_self)
      · simp only [List.map_map, List.mem_map, Function.comp] at hy
        obtain ⟨z, hz, rfl⟩ := hy
        exact lineB_len z (hf z (List.mem_cons_of_mem _ hz)))
    simp at this hl ⊢
    omega
theorem Print_of {m : Int} (l : List Ar) (hl : l.length ≤ 1000000) (hp : l.length ≤ 16 → ∀ a ∈ l, a.poly.length ≤ 1000) (hsh : areasE l = 0 → ∀ a ∈ l, a.Short) : APure (C m) 77 [.seq 4 (l.map ac)] (.tup [St (if areasE l = 0 then printB l else ⟨#[]⟩), I (areasE l)]) := by
  have hca := CheckAreas_pure (m := m) l hl hp
  by_cases h : areasE l = 0
  · have hx := hsh h
    have hll := (areas_ok h).1
    have hpl : (Lib.join ((l.map lineB).map (·.data.toList)) ((⟨#[]⟩ : ByteArray).data.toList)).length ≤ 140737488355328 := Nat.le_trans (print_len l hll hx) (by decide)
    have hmp := mapped163 (m := m) lineB 164 [] l hl (fun a ha => line_pure a (Nat.le_trans (hx a ha).p (by decide)) (hx a ha).f (hx a ha).s (Nat.le_trans (words_len a (hx a ha).p (hx a ha).n (hx a ha).s (hx a ha).f) (by decide)))
    have e : (l.map fun x => [St (lineB x)]) = cellsS (l.map lineB) := by simp [cellsS]
    rw [e] at hmp
    have hjo := join_pure (m := m) (l.map lineB) ⟨#[]⟩ (by rw [List.length_map]; omega) hpl
    rw [if_pos h, h]
    rw [h] at hca
    refine APure.of_body good [] (fn := Tryz.f77) (by kernel_rfl) (by kernel_rfl) rfl rfl (by kernel_rfl) rfl (by kernel_rfl) ?_
    conv => whnf
    repeat' (first
      | (refine codeK_sound good (mu := []) ?_; conv => whnf)
      | ((first | rw [wl0] | rw [wl1] | rw [wl2] | rw [wl3] | rw [wl4] | rw [wl5]); conv => whnf)
      | (refine SBool.mk (fun _ => ?_) (fun h => absurd (of_decide_eq_true rfl) h); conv => whnf)
      | (refine SBool.mk (fun h => absurd h (of_decide_eq_false rfl)) (fun _ => ?_); conv => whnf)
      | (refine SBool.mk (fun h => ?_) (fun h => ?_) <;> conv => whnf)
      | (refine SEx.mk _ (by first | exact hca | exact hmp | exact hjo) ?_; conv => whnf)
      | (refine SEx.mk _ (by first | exact rfl | exact ⟨of_decide_eq_true rfl, rfl⟩) ?_; conv => whnf)
      | (refine SAll.mk (fun _ => ?_); conv => whnf)
      | (refine SAnd.mk (by first | exact hca | exact hmp | exact hjo) ?_; conv => whnf)
      | (refine SAnd.mk ⟨by intro c hc; simp at hc; first | (subst hc; rfl) | ((repeat' (rcases hc with rfl | hc)) <;> first | rfl | (subst hc; rfl)), by (simp; first | done | omega), by (simp; first | done | omega)⟩ ?_; conv => whnf)
      | (refine SAnd.mk (by first | exact rfl | kernel_rfl | omega | decide | exact hca | exact hmp | exact hjo) ?_; conv => whnf)
      | fail)
    all_goals first
      | exact ⟨PLe.refl _⟩
      | exact absurd rfl (by assumption)
  · rw [if_neg h]
    refine APure.of_body good [] (fn := Tryz.f77) (by kernel_rfl) (by kernel_rfl) rfl rfl (by kernel_rfl) rfl (by kernel_rfl) ?_
    conv => whnf
    repeat' (first
      | (refine codeK_sound good (mu := []) ?_; conv => whnf)
      | ((first | rw [wl0] | rw [wl1] | rw [wl2] | rw [wl3] | rw [wl4] | rw [wl5]); conv => whnf)
      | (refine SBool.mk (fun _ => ?_) (fun h => absurd (of_decide_eq_true rfl) h); conv => whnf)
      | (refine SBool.mk (fun h => absurd h (of_decide_eq_false rfl)) (fun _ => ?_); conv => whnf)
      | (refine SBool.mk (fun h => ?_) (fun h => ?_) <;> conv => whnf)
      | (refine SEx.mk _ (by first | exact hca) ?_; conv => whnf)
      | (refine SEx.mk _ (by first | exact rfl | exact ⟨of_decide_eq_true rfl, rfl⟩) ?_; conv => whnf)
      | (refine SAll.mk (fun _ => ?_); conv => whnf)
      | (refine SAnd.mk (by first | exact hca) ?_; conv => whnf)
      | (refine SAnd.mk ⟨by intro c hc; simp at hc; first | (subst hc; rfl) | ((repeat' (rcases hc with rfl | hc)) <;> first | rfl | (subst hc; rfl)), by (simp; first | done | omega), by (simp; first | done | omega)⟩ ?_; conv => whnf)
      | (refine SAnd.mk (by first | exact rfl | kernel_rfl | omega | decide | exact hca) ?_; conv => whnf)
      | fail)
    all_goals first
      | exact ⟨PLe.refl _⟩
      | exact absurd h (by assumption)
end Go.Proofs.Ab.Area
end
section
/- Print. -/
set_option maxRecDepth 100000
set_option linter.unusedVariables false
set_option linter.unusedSimpArgs false
namespace Go.Proofs.Ab.Area
open Go Go.RowKit Go.Proofs.Ab
theorem namedF_names : ∀ {l : List (ByteArray × Int)} {known : List ByteArray}, namedF known l = 0 → ∀ x ∈ l, nameB x.1 = true
  | [], known, _, x, hx => by cases hx
  | y :: r, known, h, x, hx => by
    unfold namedF at h
    by_cases h0 : firstOf [if nameB y.1 then 0 else 8, if knownB known y.1 then 9 else 0, y.2] = 0
    · rw [if_pos h0] at h
      rw [firstOf_zero] at h0
      rcases List.mem_cons.1 hx with rfl | hx
      · cases hb : nameB x.1 with
        | true => rfl
        | false => rw [hb] at h0; exact absurd h0.1 (by decide)
      · exact namedF_names h x hx
    · rw [if_neg h0] at h
      exact absurd h h0
theorem namedE_names {most : Int} {l : List (ByteArray × Int)} (h : namedE most l = 0) : ∀ x ∈ l, nameB x.1 = true := by
  unfold namedE at h
  split at h
  · cases h
  · exact namedF_names h
theorem name_len {s : ByteArray} (h : nameB s = true) : s.data.toList.length ≤ 24 ∧ s.data.toList ≠ [] := by
  unfold nameB at h
  generalize s.data.toList = l at h
  cases l with
  | nil => cases h
  | cons c l =>
    simp only [nameL, Bool.and_eq_true, decide_eq_true_eq] at h
    simp only [List.length_cons]
    exact ⟨by omega, by simp⟩
theorem area_short {a : Ar} (hn : nameB a.name = true) (h : areaE a = 0) : a.Short := by
  have hf := (area_fit h).2
  unfold areaE at h
  rw [firstOf_zero, firstOf_zero, firstOf_zero] at h
  have hp := polyE_zero.1 h.2.2.1
  have h1 := within_zero.1 (show within a.size 0 3 = 0 from h.1)
  have h2 := within_zero.1 (show within a.cat 1 3 = 0 from h.2.1)
  exact ⟨(name_len hn).1, hp.n8, hf, by omega, by omega⟩
theorem areas_short {l : List Ar} (h : areasE l = 0) : ∀ a ∈ l, a.Short := fun a ha =>
  area_short (namedE_names h (a.name, areaE a) (List.mem_map_of_mem (f := fun a : Ar => (a.name, areaE a)) ha)) ((areas_ok h).2 a ha)
theorem Print_pure {m : Int} (l : List Ar) (hl : l.length ≤ 1000000) (hp : l.length ≤ 16 → ∀ a ∈ l, a.poly.length ≤ 1000) : APure (C m) 77 [.seq 4 (l.map ac)] (.tup [St (if areasE l = 0 then printB l else ⟨#[]⟩), I (areasE l)]) :=
  Print_of l hl hp (fun h => areas_short h)
end Go.Proofs.Ab.Area
end
section
/- An integer's text, read. -/
set_option maxRecDepth 100000
set_option linter.unusedVariables false
set_option linter.unusedSimpArgs false
namespace Go.Proofs.Ab.Area
open Go Go.RowKit Go.Proofs.Ab
abbrev dig (c : UInt8) : Prop := 48 ≤ c.toNat ∧ c.toNat ≤ 57
def digV (l : List UInt8) : Int := l.foldl (fun n c => 10 * n + ((c.toNat : Int) - 48)) 0
/-- What the digits and the sign come to. -/
def intV (l : List UInt8) (neg : Bool) : Int × Bool :=
  if (∀ c ∈ l, dig c) ∧ l.length ≤ 9 ∧ l ≠ [] ∧ ¬ (l.head? = some 48 ∧ (1 < l.length ∨ neg = true)) then (if neg then 0 - digV l else digV l, true) else (0, false)
theorem digV_succ (l : List UInt8) {k : Nat} (h : k < l.length) : digV (l.take (k + 1)) = 10 * digV (l.take k) + ((l[k].toNat : Int) - 48) := by
  unfold digV
  rw [List.take_succ_eq_append_getElem h, List.foldl_append]
  rfl
theorem digV_bound : ∀ (k : Nat) (l : List UInt8), (∀ c ∈ l.take k, dig c) → k ≤ l.length → 0 ≤ digV (l.take k) ∧ digV (l.take k) < ((10 ^ k : Nat) : Int)
  | 0, l, _, _ => by simp [digV]
  | k + 1, l, h, hk => by
    have hk' : k < l.length := by omega
    have ih := digV_bound k l (fun c hc => h c (by rw [List.take_succ_eq_append_getElem hk']; exact List.mem_append_left _ hc)) (by omega)
    have hd := h l[k] (by rw [List.take_succ_eq_append_getElem hk']; exact List.mem_append_right _ List.mem_cons_self)
    rw [digV_succ l hk', Nat.pow_succ]
    have h1 := hd.1
    have h2 := hd.2
    omega
theorem intV_bad {l : List UInt8} {neg : Bool} {k : Nat} (h : k < l.length) (hd : ¬ (dig l[k] ∧ l.length ≤ 9)) : intV l neg = (0, false) := by
  unfold intV
  rw [if_neg (fun ⟨h1, h2, _⟩ => hd ⟨h1 _ (List.getElem_mem h), h2⟩)]
theorem i32w {c : Nat} (h : c ≤ 255) : wrapK IntKind.i32 ((c : Int) - 48) = (c : Int) - 48 := by
  show IntKind.i32.wrap _ = _
  exact IntWalk.i32_in _ (by omega)
theorem integer_pure {m : Int} (s : ByteArray) : APure (C m) 206 [St s] (.tup [I (intV (Lib.trimPrefix s.data.toList [45]) (Lib.hasPrefix s.data.toList [45])).1, Bo (intV (Lib.trimPrefix s.data.toList [45]) (Lib.hasPrefix s.data.toList [45])).2]) := by
  have hcp := cutPrefix_pure (m := m) s ⟨#[45]⟩
  have e45 : (⟨#[45]⟩ : ByteArray).data.toList = [45] := rfl
  rw [e45] at hcp
  generalize Lib.trimPrefix s.data.toList [45] = l at *
  generalize Lib.hasPrefix s.data.toList [45] = neg at *
  refine APure.of_body good [] (fn := Tryz.f206) (by kernel_rfl) (by kernel_rfl) rfl rfl (by kernel_rfl) rfl (by kernel_rfl) ?_
  conv => whnf
  repeat' (first
    | (refine SEx.mk _ (by first | exact hcp) ?_; conv => whnf)
    | (refine SAll.mk (fun _ => ?_); conv => whnf)
    | fail)
  · rename_i g
    have hbs : (⟨l.toArray⟩ : ByteArray).size = l.length := by simp [ByteArray.size]
    refine ⟨AWp.loop (ι := { k : Nat // k ≤ l.length ∧ (∀ c ∈ l.take k, dig c) ∧ (0 < k → l.length ≤ 9) }) (fun k => ⟨[(15, .p (.v (.pointer (some ⟨g, 0, none⟩)))), (4, .p (St ⟨l.toArray⟩)), (5, .p (Bo neg)), (6, .p (I (digV (l.take k.1))))], [], [], 1, [], [(0, .siter g ⟨l.toArray⟩ k.1)], []⟩) (fun k => l.length - k.1) ⟨0, by simp, by simp, by simp⟩ ?_ ?_⟩
    · skip
      · refine SLe.ofO [] [] [(0, 0)] rfl rfl rfl ?_
        conv => whnf
        repeat' (first
        | exact True.intro
        | (refine SAnd.mk (PLe.refl _) ?_; conv => whnf)
        | (refine SAnd.mk ⟨rfl, rfl, rfl⟩ ?_; conv => whnf))
    · rintro ⟨k, hk, hd, h9⟩
      have hbd := digV_bound k l hd hk
      refine codeK_sound good (mu := []) ?_
      conv => whnf
      refine SAnd.mk rfl ?_
      conv => whnf
      refine SBool.mk (fun hc => ?_) (fun hc => ?_)
      · have hkl : k < l.length := by rw [hbs] at hc; exact hc
        have hks : k < (⟨l.toArray⟩ : ByteArray).size := by rw [hbs]; exact hkl
        have hget : (⟨l.toArray⟩ : ByteArray)[k]'hks = l[k] := rfl
        conv => whnf
        rcases Nat.lt_or_ge l[k].toNat 128 with hasc | hhigh
        · have hdec : Utf8.decode ⟨l.toArray⟩ k = (l[k].toNat, 1) := by
            rw [decode_ascii _ _ hks (by rw [hget]; exact hasc), hget]
          conv => whnf
          repeat' (first
            | (refine SBool.mk (fun h => ?_) (fun h => ?_) <;> conv => whnf)
            | (refine SEx.mk _ (by first | exact hdec) ?_; conv => whnf)
            | fail)
          · have h1 : (l[k].toNat : Int) < 48 := h
            exact ⟨PLe.of_eq (by rw [intV_bad hkl (neg := neg) (fun ⟨hh, _⟩ => by have := hh.1; omega)])⟩
          · have h1 : 57 < (l[k].toNat : Int) := h
            exact ⟨PLe.of_eq (by rw [intV_bad hkl (neg := neg) (fun ⟨hh, _⟩ => by have := hh.2; omega)])⟩
          · have h1 : (9 : Int) < ((⟨l.toArray⟩ : ByteArray).size : Int) := h
            rw [hbs] at h1
            exact ⟨PLe.of_eq (by rw [intV_bad hkl (neg := neg) (fun ⟨_, hh⟩ => by omega)])⟩
          · rename_i h1 h2
            have h1 : ¬ (l[k].toNat : Int) < 48 := h1
            have h2 : ¬ 57 < (l[k].toNat : Int) := h2
            have h3 : ¬ (9 : Int) < ((⟨l.toArray⟩ : ByteArray).size : Int) := h
            rw [hbs] at h3
            have hdk : dig l[k] := ⟨by omega, by omega⟩
            have hp : 10 ^ k ≤ 10 ^ 8 := Nat.pow_le_pow_right (by decide) (by omega)
            have hw : wrapK IntKind.i64 (wrapK IntKind.i64 (10 * digV (l.take k)) + wrapK IntKind.i64 (wrapK IntKind.i32 ((l[k].toNat : Int) - 48))) = digV (l.take (k + 1)) := by
              rw [i32w (by omega), digV_succ l hkl]
              have e1 : wrapK IntKind.i64 (10 * digV (l.take k)) = 10 * digV (l.take k) := w64 (by omega)
              have e2 : wrapK IntKind.i64 ((l[k].toNat : Int) - 48) = (l[k].toNat : Int) - 48 := w64 (by omega)
              rw [e1, e2]
              exact w64 (by omega)
            refine ⟨⟨k + 1, by omega, fun c hc => ?_, fun _ => by omega⟩, by simp only; omega, ?_⟩
            · rw [List.take_succ_eq_append_getElem hkl] at hc
              rcases List.mem_append.1 hc with hc | hc
              · exact hd c hc
              · simp at hc
                rw [hc]
                exact hdk
            · skip
              · refine SLe.ofO [] [] [(0, 0)] rfl rfl rfl ?_
                conv => whnf
                repeat' (first
                | exact True.intro
                | (refine SAnd.mk (PLe.of_eq (congrArg I hw)) ?_; conv => whnf)
                | (refine SAnd.mk (PLe.refl _) ?_; conv => whnf)
                | (refine SAnd.mk ⟨rfl, rfl, rfl⟩ ?_; conv => whnf))
        · obtain ⟨hc1, hc2⟩ := decode_high _ k hks (by rw [hget]; exact hhigh)
          obtain ⟨cw, hcw⟩ : ∃ cw, Utf8.decode ⟨l.toArray⟩ k = cw := ⟨_, rfl⟩
          rw [hcw] at hc1
          have hb := intV_bad hkl (neg := neg) (fun ⟨hh, _⟩ => by have := hh.2; omega)
          conv => whnf
          repeat' (first
            | (refine SBool.mk (fun h => ?_) (fun h => ?_) <;> conv => whnf)
            | (refine SEx.mk _ (by first | exact hcw) ?_; conv => whnf)
            | fail)
          · exact ⟨PLe.of_eq (by rw [hb])⟩
          · exact ⟨PLe.of_eq (by rw [hb])⟩
          · exact ⟨PLe.of_eq (by rw [hb])⟩
          · rename_i h1 h2
            have h2 : ¬ (57 : Int) < (cw.1 : Int) := h2
            exact absurd (by omega) h2
      · have hc' : ¬ k < (⟨l.toArray⟩ : ByteArray).size := hc
        have : k = l.length := by rw [hbs] at hc'; omega
        subst this
        rw [List.take_length] at hd hbd
        clear hcp hc hc'
        rcases l with _ | ⟨c, l⟩
        · skip
          conv => whnf
          repeat' (first
            | (refine SBool.mk (fun _ => ?_) (fun h => absurd (of_decide_eq_true rfl) h); conv => whnf)
            | (refine SEx.mk _ (by first | exact eql_string _ _ _) ?_; conv => whnf)
            | fail)
          exact ⟨PLe.of_eq (by simp [intV])⟩
        · have hne : decide ((⟨(c :: l).toArray⟩ : ByteArray) = ⟨#[]⟩) = false := decide_eq_false (fun e => by injection e with e; simp at e)
          have heq : ∀ w, (binOp .eql 9 (.string ⟨(c :: l).toArray⟩) (.string ⟨#[]⟩)).run (C m).P w = .ok (.bool false) w := fun w => by
            have := eql_string (m := m) 9 ⟨(c :: l).toArray⟩ ⟨#[]⟩ w
            rw [hne] at this
            exact this
          have hs0 : (0 : Int) ≤ 0 ∧ (0 : Int) < ((⟨(c :: l).toArray⟩ : ByteArray).size : Int) := ⟨by omega, by rw [hbs]; simp only [List.length_cons]; omega⟩
          have hlen : (((⟨(c :: l).toArray⟩ : ByteArray).size : Nat) : Int) = (l.length : Int) + 1 := by rw [hbs]; simp
          have hby : byteAt ⟨(c :: l).toArray⟩ (Int.toNat 0) = (c.toNat : Int) := rfl
          have hl9 := h9 (by simp)
          have hp : 10 ^ (c :: l).length ≤ 10 ^ 9 := Nat.pow_le_pow_right (by decide) hl9
          have hwn : wrapK IntKind.i64 (0 - digV (c :: l)) = 0 - digV (c :: l) := w64 (by omega)
          have hc48 : (c.toNat : Int) = 48 ↔ c = 48 := by
            constructor
            · intro h
              exact UInt8.toNat_inj.1 (by have : c.toNat = 48 := by omega
                                          rw [this]; rfl)
            · rintro rfl; rfl
          have hval : intV (c :: l) neg = if c = 48 ∧ (0 < l.length ∨ neg = true) then (0, false) else (if neg then 0 - digV (c :: l) else digV (c :: l), true) := by
            unfold intV
            by_cases hh : c = 48 ∧ (0 < l.length ∨ neg = true)
            · rw [if_pos hh, if_neg (fun ⟨_, _, _, h4⟩ => h4 ⟨by simp [hh.1], by simpa using hh.2⟩)]
            · rw [if_neg hh, if_pos ⟨hd, hl9, by simp, fun ⟨h5, h6⟩ => hh ⟨by simpa using h5, by simpa using h6⟩⟩]
          have hsz : (⟨(c :: l).toArray⟩ : ByteArray).size = l.length + 1 := by rw [hbs]; rfl
          have htk : (c :: l).take (c :: l).length = c :: l := List.take_length
          cases neg
          · skip
            conv => whnf
            repeat' (first
              | (refine SBool.mk (fun h => absurd h (of_decide_eq_false rfl)) (fun _ => ?_); conv => whnf)
              | (refine SBool.mk (fun h => ?_) (fun h => ?_) <;> conv => whnf)
              | (refine SEx.mk _ (by first | exact heq | exact hs0) ?_; conv => whnf)
              | (refine SAnd.mk (by first | exact heq | exact hs0) ?_; conv => whnf)
              | fail)
            · rename_i h0
              have h0 : (c.toNat : Int) = 48 := h0
              rw [hsz] at h
              exact ⟨PLe.of_eq (by rw [hval, if_pos ⟨hc48.1 h0, .inl (by omega)⟩])⟩
            · rename_i h0
              rw [hsz] at h
              exact ⟨PLe.of_eq (by rw [hval, if_neg (fun ⟨_, hh⟩ => by rcases hh with hh | hh; omega; cases hh)]; simp only [htk]; rfl)⟩
            · have h0 : ¬ (c.toNat : Int) = 48 := h
              exact ⟨PLe.of_eq (by rw [hval, if_neg (fun ⟨hh, _⟩ => h0 (hc48.2 hh))]; simp only [htk]; rfl)⟩
          · have hwn' : wrapK IntKind.i64 (0 - digV ((c :: l).take (c :: l).length)) = 0 - digV (c :: l) := by rw [htk]; exact hwn
            conv => whnf
            repeat' (first
              | (refine SBool.mk (fun h => absurd h (of_decide_eq_false rfl)) (fun _ => ?_); conv => whnf)
              | (refine SBool.mk (fun h => ?_) (fun h => ?_) <;> conv => whnf)
              | (refine SEx.mk _ (by first | exact heq | exact hs0) ?_; conv => whnf)
              | (refine SAnd.mk (by first | exact heq | exact hs0) ?_; conv => whnf)
              | fail)
            · rename_i h0
              have h0 : (c.toNat : Int) = 48 := h0
              exact ⟨PLe.of_eq (by rw [hval, if_pos ⟨hc48.1 h0, .inr rfl⟩])⟩
            · rename_i h0
              have h0 : (c.toNat : Int) = 48 := h0
              exact ⟨PLe.of_eq (by rw [hval, if_pos ⟨hc48.1 h0, .inr rfl⟩])⟩
            · have h0 : ¬ (c.toNat : Int) = 48 := h
              exact ⟨PLe.of_eq (by rw [hval, if_neg (fun ⟨hh, _⟩ => h0 (hc48.2 hh)), hwn']; rfl)⟩
end Go.Proofs.Ab.Area
end
section
/- Recursion: calls from frames whose callers' slots are not told one by one. -/
set_option linter.unusedVariables false
set_option linter.unusedSimpArgs false
namespace Go.Proofs.Ab
open Go Go.RowKit

abbrev shS (nt : Nat) (sv : List (Nat × SV)) : List (Nat × SV) := sv.map fun p => (nt + p.1, p.2)
theorem shK_eq {nt : Nat} : ∀ {l : List (Nat × SV)} {k : List (Nat × SV) → Prop}, shK nt l k = k (shS nt l)
  | [], k => rfl
  | (t, v) :: r, k => by
    show shK nt r (fun l => k ((nt + t, v) :: l)) = _
    rw [shK_eq]
    rfl
theorem apL_eq : ∀ {cs d : List (Nat × SV)} {k : List (Nat × SV) → Prop}, apL cs d k = k (cs ++ d)
  | [], d, k => rfl
  | c :: cs, d, k => by
    show apL cs d (fun l => k (c :: l)) = _
    rw [apL_eq]
    rfl
theorem restoreK_sh {nt : Nat} : ∀ {sv : List (Nat × SV)} {k : List (Nat × SV) → List (Nat × SV) → Prop}, restoreK nt (shS nt sv) k = k [] sv
  | [], k => rfl
  | (t, v) :: r, k => by
    show restoreK nt (shS nt r) (fun fr sv => bif Nat.blt (nt + t) nt then k ((nt + t, v) :: fr) sv else k fr ((nt + t - nt, v) :: sv)) = _
    rw [restoreK_sh]
    have h1 : Nat.blt (nt + t) nt = false := by
      cases h : Nat.blt (nt + t) nt with
      | false => rfl
      | true => rw [Nat.blt_eq] at h; omega
    rw [h1, Nat.add_sub_cancel_left]
    rfl
theorem restoreK_app {nt : Nat} {sv : List (Nat × SV)} : ∀ {fr : List (Nat × SV)} {k : List (Nat × SV) → List (Nat × SV) → Prop}, (fr.all fun p => Nat.blt p.1 nt) = true → restoreK nt (fr ++ shS nt sv) k = k fr sv
  | [], k, _ => restoreK_sh
  | (t, v) :: r, k, h => by
    rw [List.all_cons, Bool.and_eq_true] at h
    show restoreK nt (r ++ shS nt sv) (fun fr sv => bif Nat.blt t nt then k ((t, v) :: fr) sv else k fr ((t - nt, v) :: sv)) = _
    rw [restoreK_app h.2, h.1]
    rfl
/-- What mentions only boxes below n (and no rows). -/
def Cap.old (n : Nat) : Cap → Prop
  | .p _ => True
  | .box m _ => m < n
def SV.old (n : Nat) : SV → Prop
  | .p _ => True
  | .box m _ => m < n
  | .own _ => False
  | .rowp _ _ => False
  | .clo _ cs => ∀ c ∈ cs, c.old n
  | .bnd _ cs => ∀ c ∈ cs, c.old n
def OldL (n : Nat) (l : List (Nat × SV)) : Prop := ∀ t v, look l t = some v → v.old n
theorem oldL_all {n : Nat} {l : List (Nat × SV)} (h : ∀ p ∈ l, p.2.old n) : OldL n l := fun t v hv => h _ (look_mem hv)
theorem OldL.save {n nt : Nat} {fr sv : List (Nat × SV)} (h1 : ∀ p ∈ fr, p.2.old n) (h2 : ∀ p ∈ sv, p.2.old n) : ∀ p ∈ fr ++ shS nt sv, p.2.old n := fun p hp => by
  rcases List.mem_append.1 hp with hp | hp
  · exact h1 p hp
  · obtain ⟨q, hq, rfl⟩ := List.mem_map.1 hp
    exact h2 q hq
def cutE (n : Nat) (E : Env) : Env := ⟨E.ok, fun m => if m < n then E.β m else none, fun _ => none⟩
theorem SRep.cut {w : World} {E : Env} {n : Nat} {v : SV} {u : Value} (h : SRep w E v u) (ho : v.old n) : SRep w (cutE n E) v u := by
  have hb : ∀ m g, m < n → E.β m = some g → (cutE n E).β m = some g := fun m g hm hg => by
    show (if m < n then E.β m else none) = _
    rw [if_pos hm]
    exact hg
  cases v with
  | p x => exact h
  | box m off =>
    obtain ⟨g, hg, rfl⟩ := h
    exact ⟨g, hb m g ho hg, rfl⟩
  | own m => exact ho.elim
  | rowp m off => exact ho.elim
  | clo g cs =>
    obtain ⟨us, rfl, hl, hc⟩ := h
    refine ⟨us, rfl, hl, fun j c x h1 h2 => ?_⟩
    have h3 := hc j c x h1 h2
    have h4 := ho c (List.mem_of_getElem? h1)
    cases c with
    | p y => exact h3
    | box m off =>
      obtain ⟨g, hg, e⟩ := h3
      exact ⟨g, hb m g h4 hg, e⟩
  | bnd g cs =>
    obtain ⟨us, rfl, hl, hc⟩ := h
    refine ⟨us, rfl, hl, fun j c x h1 h2 => ?_⟩
    have h3 := hc j c x h1 h2
    have h4 := ho c (List.mem_of_getElem? h1)
    cases c with
    | p y => exact h3
    | box m off =>
      obtain ⟨g, hg, e⟩ := h3
      exact ⟨g, hb m g h4 hg, e⟩
section
variable {C : Cx} {nt : Nat} {B : Nat} {ok0 : Base} {w0 : World} {a : Act} {w : World} {E : Env}
theorem Sat.cut {fr fr' : List (Nat × SV)} {bx bx' : List (Nat × (Nat × List PV))} {rw : List (Nat × (Nat × Nat × List (List PV)))} {nx n : Nat} {sv : List (Nat × SV)} {ob : List (Nat × Ob)} {df : List Nat} (h : Sat C nt ⟨fr, bx, rw, nx, sv, ob, df⟩ B ok0 w0 a w E)
    (hfr : ∀ t v, look fr' t = some v → look fr t = some v ∧ v.old n) (hbx : ∀ m x, look bx' m = some x → look bx m = some x ∧ m < n) (hsv : OldL n sv) :
    Sat C nt ⟨fr', bx', [], n, sv, [], df⟩ B ok0 w0 a w (cutE n E) := by
  have hβ : ∀ m g, (cutE n E).β m = some g → E.β m = some g := fun m g hm => by
    change (if m < n then E.β m else none) = some g at hm
    split at hm
    · exact hm
    · cases hm
  refine ⟨h.defs, h.size, fun t v hv => ⟨(h.fr t v (hfr t v hv).1).1, (h.fr t v (hfr t v hv).1).2.cut (hfr t v hv).2⟩, ⟨fun m T cs hm => ?_, fun m e sz xs hm => (by cases hm), fun m o hm => (by cases hm)⟩, fun i j x y g hi hj hg hg' => h.bb i j x y g (hbx i x hi).1 (hbx j y hj).1 (hβ i g hg) (hβ j g hg'), fun i j x y g v hi hj => (by cases hj), fun i j x y g v v' hi => (by cases hi), fun m hm => ⟨?_, rfl⟩, h.ok_lt, h.ok_from, h.ok_all, h.hB, h.below, h.glob, fun t v hv => (h.svs t v hv).cut (hsv t v hv), ⟨fun n m x y hn => (nomatch hn), fun n m x y hn hm => (nomatch hm), fun n m x y v hn hm => (nomatch hm)⟩⟩
  · obtain ⟨h1, h2⟩ := hbx m _ hm
    obtain ⟨g, us, hg, h3⟩ := h.mem.bx m T cs h1
    exact ⟨g, us, by show (if m < n then E.β m else none) = _; rw [if_pos h2]; exact hg, h3⟩
  · show (if m < n then E.β m else none) = none
    rw [if_neg (by simp only at hm; omega)]
end
theorem SRepL.cut {w : World} {E : Env} {n : Nat} {xs : List SV} {us : List Value} (h : SRepL w E xs us) (ho : ∀ x ∈ xs, x.old n) : SRepL w (cutE n E) xs us :=
  ⟨h.1, fun j c u hc hu => (h.2 j c u hc hu).cut (ho c (List.mem_of_getElem? hc))⟩
/-- A call from a frame of which less is told. -/
theorem ACall.cut {C : Cx} {nt : Nat} {fr fr' : List (Nat × SV)} {bx bx' : List (Nat × (Nat × List PV))} {rw : List (Nat × (Nat × Nat × List (List PV)))} {nx n : Nat} {sv : List (Nat × SV)} {ob : List (Nat × Ob)} {df : List Nat} {f : FuncId} {xs : List SV} {K : SV → AS → Prop}
    (hfr : ∀ t v, look fr' t = some v → look fr t = some v ∧ v.old n) (hbx : ∀ m x, look bx' m = some x → look bx m = some x ∧ m < n) (hsv : OldL n sv) (hxs : ∀ x ∈ xs, x.old n)
    (h : ACall C nt ⟨fr', bx', [], n, sv, [], df⟩ f xs K) : ACall C nt ⟨fr, bx, rw, nx, sv, ob, df⟩ f xs K :=
  ⟨h.body, fun B ok0 w0 a w E us R hS hr hR => h.h B ok0 w0 a w (cutE n E) us R (hS.cut hfr hbx hsv) (hr.cut hxs) hR⟩
theorem SLe.cut {C : Cx} {nt : Nat} {fr fr' : List (Nat × SV)} {bx bx' : List (Nat × (Nat × List PV))} {rw : List (Nat × (Nat × Nat × List (List PV)))} {nx n : Nat} {sv : List (Nat × SV)} {ob : List (Nat × Ob)} {df : List Nat}
    (hfr : ∀ t v, look fr' t = some v → look fr t = some v ∧ v.old n) (hbx : ∀ m x, look bx' m = some x → look bx m = some x ∧ m < n) (hsv : OldL n sv) : SLe C nt ⟨fr, bx, rw, nx, sv, ob, df⟩ ⟨fr', bx', [], n, sv, [], df⟩ :=
  ⟨fun hS => ⟨_, hS.cut hfr hbx hsv⟩⟩
/-- A row among the arguments is written no more. -/
theorem ACall.shut {C : Cx} {nt : Nat} {fr : List (Nat × SV)} {bx : List (Nat × (Nat × List PV))} {rw rw' : List (Nat × (Nat × Nat × List (List PV)))} {nx : Nat} {sv : List (Nat × SV)} {ob : List (Nat × Ob)} {df : List Nat} {f : FuncId} {xs1 xs2 : List SV} {K : SV → AS → Prop} (n : Nat) {e sz : Nat} {ys : List (List PV)}
    (hn : look rw n = some (e, sz, ys)) (hrw : ∀ m x, look rw' m = some x → look rw m = some x ∧ m ≠ n) (hnt : nt = nt)
    (h : ACall C nt ⟨fr, bx, rw', nx, sv, ob, df⟩ f (xs1 ++ .p (.seq sz ys) :: xs2) K) : ACall C nt ⟨fr, bx, rw, nx, sv, ob, df⟩ f (xs1 ++ .own n :: xs2) K := by
  refine ⟨h.body, fun B ok0 w0 a w E us R hS hr hR => ?_⟩
  obtain ⟨v, us0, hv, ho, hsz, hrep, hok⟩ := hS.mem.rw n e sz ys hn
  have hle : E.Le { E with ok := fun b => E.ok b ∨ v.ownBlock = some b } := ⟨fun b h => .inl h, fun _ _ h => h, fun _ _ h => h⟩
  have hh : ∀ b, E.ok b → w.heap[b]? = w.heap[b]? := fun _ _ => rfl
  refine h.h B ok0 w0 a w { E with ok := fun b => E.ok b ∨ v.ownBlock = some b } us R ⟨hS.defs, hS.size, fun t x hx => ⟨(hS.fr t x hx).1, (hS.fr t x hx).2.ext hle hh⟩, ⟨?_, ?_, obs_ext hS.mem.ob hle hh (fun m o hm x hx hno hk => hk.elim hno (hS.od.ro n m _ o v hn hm hv)) (fun _ _ _ x hx => hx)⟩, hS.bb, fun i m x y g v hi hm => hS.br i m x y g v hi (hrw m y hm).1, fun i m x y g v v' hi hm => hS.rr i m x y g v v' (hrw i x hi).1 (hrw m y hm).1, hS.fresh, ?_, ?_, fun b hb => .inl (hS.ok_all b hb), hS.hB, hS.below, hS.glob.ext hle.ok hh, fun t v hv => (hS.svs t v hv).ext hle hh, ⟨hS.od.oo, hS.od.bo, fun i j y z v hi hj => hS.od.ro i j y z v (hrw i y hi).1 hj⟩⟩ ?_ hR
  · intro m T' cs' hm
    obtain ⟨g', us', hg', hB', hok', hgg', hr'⟩ := hS.mem.bx m T' cs' hm
    refine ⟨g', us', hg', hB', fun hk => ?_, hgg', hr'.ext hle.ok hh⟩
    rcases hk with hk | hk
    · exact hok' hk
    · exact hS.br m n _ _ g' v hm hn hg' hv hk
  · intro m e' sz' xs' hm
    obtain ⟨hm', hne⟩ := hrw m _ hm
    obtain ⟨v', us', hv', ho', hsz', hr', hok'⟩ := hS.mem.rw m e' sz' xs' hm'
    refine ⟨v', us', hv', ho', hsz', hr'.ext hle.ok hh, fun k hk hk2 => ?_⟩
    rcases hk2 with hk2 | hk2
    · exact hok' k hk hk2
    · exact hne (hS.rr m n _ _ k v' v hm' hn hv' hv hk hk2)
  · intro b hk
    rcases hk with hk | hk
    · exact hS.ok_lt b hk
    · exact (ho.lt b hk).2
  · intro b hk
    rcases hk with hk | hk
    · exact hS.ok_from b hk
    · exact .inr (ho.lt b hk).1
  · refine ⟨by rw [hr.1]; simp, fun j c u hc hu => ?_⟩
    by_cases hj : j = xs1.length
    · subst hj
      have h1 : (xs1 ++ SV.own n :: xs2)[xs1.length]? = some (.own n) := by simp
      have h2 := hr.2 _ _ u h1 hu
      have h3 : c = .p (.seq sz ys) := by simpa using hc.symm
      subst h3
      have h2' : E.ν n = some u := h2
      rw [hv] at h2'
      injection h2' with h2'
      rw [← h2']
      exact own_seq ho hsz (hrep.ext (w' := w) hle.ok hh) (fun g hg => .inr hg)
    · have h1 : (xs1 ++ SV.own n :: xs2)[j]? = some c := by
        rw [← hc]
        rcases Nat.lt_or_gt_of_ne hj with h | h
        · rw [List.getElem?_append_left h, List.getElem?_append_left h]
        · rw [List.getElem?_append_right (by omega), List.getElem?_append_right (by omega)]
          obtain ⟨d, hd⟩ : ∃ d, j - xs1.length = d + 1 := ⟨j - xs1.length - 1, by omega⟩
          rw [hd]
          rfl
      exact (hr.2 j c u h1 hu).ext hle hh
/-- A call stepped through where it stands; of the slots above nothing is told. -/
theorem ACall.inlineG {C : Cx} (hC : C.Good) {nt : Nat} {fr : List (Nat × SV)} {b : List (Nat × (Nat × List PV))} {r : List (Nat × (Nat × Nat × List (List PV)))} {n : Nat} {sv : List (Nat × SV)} {o : List (Nat × Ob)} {df : List Nat} {f : FuncId} {fn : Func} {c : Code} {rs : List ResultVar} {nt' : Nat} (mu : List Nat) {xs : List SV} {K : SV → AS → Prop} (hf : C.P.funcs[f]? = some fn) (hn : (fn.name == "runtime.NumGoroutine") = false) (hb : fn.body = some c)
    (hnt : fn.ntmps = nt') (hx : Nat.ble xs.length nt' = true) (hrs : fn.results = rs.toArray) (hl : Nat.ble rs.length 4 = true)
    (h : ∀ saved, saved = fr ++ shS nt sv → codeK C nt' mu c ⟨initSV 0 xs, b, r, n, saved, o, []⟩ (fun e s2 => match e with | .exit _ => False | _ => endIK C nt df rs s2 K)) : ACall C nt ⟨fr, b, r, n, sv, o, df⟩ f xs K :=
  ACall.inline hC mu hf hn hb hnt hx hrs hl (by
    show shK nt sv _
    rw [shK_eq, apL_eq]
    exact h _ rfl)
/-- Two rows among the arguments. -/
theorem ACall.shut2 {C : Cx} {nt : Nat} {fr : List (Nat × SV)} {bx : List (Nat × (Nat × List PV))} {nx : Nat} {sv : List (Nat × SV)} {ob : List (Nat × Ob)} {df : List Nat} {f : FuncId} {z : SV} {K : SV → AS → Prop} {a b e sz e' sz' : Nat} {xs ys xs' ys' : List (List PV)} (hab : a ≠ b) (hx : xs = xs') (hy : ys = ys')
    (h : ACall C nt ⟨fr, bx, [], nx, sv, ob, df⟩ f [.p (.seq sz xs'), .p (.seq sz' ys'), z] K) : ACall C nt ⟨fr, bx, [(b, (e', sz', ys)), (a, (e, sz, xs))], nx, sv, ob, df⟩ f [.own a, .own b, z] K := by
  subst hx hy
  refine ACall.shut (xs1 := []) (rw' := [(b, (e', sz', ys))]) a (by rw [look_cons_ne (Ne.symm hab), look_cons_self]) (fun m x hm => ?_) rfl ?_
  · by_cases e : b = m
    · subst e; rw [look_cons_self] at hm ⊢; exact ⟨hm, Ne.symm hab⟩
    · rw [look_cons_ne e] at hm; cases hm
  · refine ACall.shut (xs1 := [.p (.seq sz xs)]) (rw' := []) b look_cons_self (fun m x hm => by cases hm) rfl ?_
    exact h
/-- The slots of one state stand in another one. -/
def SubL (fr : List (Nat × SV)) (n : Nat) : List (Nat × SV) → Prop
  | [] => True
  | p :: r => (look fr p.1 = some p.2 ∧ p.2.old n) ∧ SubL fr n r
theorem SubL.at {fr : List (Nat × SV)} {n : Nat} : ∀ {l : List (Nat × SV)}, SubL fr n l → ∀ t v, look l t = some v → look fr t = some v ∧ v.old n
  | (k, x) :: r, ⟨h1, h2⟩, t, v, hv => by
    by_cases e : k = t
    · subst e
      rw [look_cons_self] at hv
      injection hv with hv
      subst hv
      exact h1
    · rw [look_cons_ne e] at hv
      exact h2.at t v hv
theorem SubL.mem {fr : List (Nat × SV)} {n : Nat} : ∀ {l : List (Nat × SV)}, SubL fr n l → ∀ p ∈ l, p.2.old n
  | q :: r, ⟨h1, h2⟩, p, hp => by
    rcases List.mem_cons.1 hp with rfl | hp
    · exact h1.2
    · exact h2.mem p hp
def SubR (rw : List (Nat × (Nat × Nat × List (List PV)))) (n : Nat) : List (Nat × (Nat × Nat × List (List PV))) → Prop
  | [] => True
  | p :: r => (look rw p.1 = some p.2 ∧ p.1 ≠ n) ∧ SubR rw n r
theorem SubR.at {rw : List (Nat × (Nat × Nat × List (List PV)))} {n : Nat} : ∀ {l : List (Nat × (Nat × Nat × List (List PV)))}, SubR rw n l → ∀ t v, look l t = some v → look rw t = some v ∧ t ≠ n
  | (k, x) :: r, ⟨h1, h2⟩, t, v, hv => by
    by_cases e : k = t
    · subst e
      rw [look_cons_self] at hv
      injection hv with hv
      subst hv
      exact h1
    · rw [look_cons_ne e] at hv
      exact h2.at t v hv
def SubB (bx : List (Nat × (Nat × List PV))) (n : Nat) : List (Nat × (Nat × List PV)) → Prop
  | [] => True
  | p :: r => (look bx p.1 = some p.2 ∧ p.1 < n) ∧ SubB bx n r
theorem SubB.at {bx : List (Nat × (Nat × List PV))} {n : Nat} : ∀ {l : List (Nat × (Nat × List PV))}, SubB bx n l → ∀ t v, look l t = some v → look bx t = some v ∧ t < n
  | (k, x) :: r, ⟨h1, h2⟩, t, v, hv => by
    by_cases e : k = t
    · subst e
      rw [look_cons_self] at hv
      injection hv with hv
      subst hv
      exact h1
    · rw [look_cons_ne e] at hv
      exact h2.at t v hv
theorem dropK_at {cs : List PV} {n : Nat} {k : List PV → Prop} {ds : List PV} (h : cs.drop n = ds) (hn : n ≤ cs.length) (hk : k ds) : dropK cs n k := by
  subst h
  induction n generalizing cs with
  | zero =>
    rw [List.drop_zero] at hk
    unfold dropK
    exact hk
  | succ n ih =>
    cases cs with
    | nil => simp at hn
    | cons c cs =>
      unfold dropK
      exact ih (by simpa using hn) (by simpa using hk)
theorem takeK_app {ds rest : List PV} {k : List PV → Prop} (hk : k ds) : takeK (ds ++ rest) ds.length k := by
  induction ds generalizing k with
  | nil =>
    unfold takeK
    exact hk
  | cons d ds ih =>
    show takeK (d :: (ds ++ rest)) (ds.length + 1) k
    unfold takeK
    exact ih (k := fun l => k (d :: l)) hk
/-- A struct's load off a row of the frame's own, at an index that is not a numeral. -/
theorem dropK_load {cs : List PV} {n : Nat} {ds rest : List PV} {ti : TI} {k : SV → Prop} (h : cs.drop n = ds ++ rest) (hn : n ≤ cs.length) (ha : ti.kind.agg = true) (hs : ti.size = ds.length) (hk : k (.p (.agg ds))) : dropK cs n fun l => loadK ti l k := by
  refine dropK_at h hn ?_
  unfold loadK
  rw [ha]
  show takeK (ds ++ rest) ti.size fun l => k (.p (.agg l))
  rw [hs]
  exact takeK_app (k := fun l => k (.p (.agg l))) hk
end Go.Proofs.Ab
end
