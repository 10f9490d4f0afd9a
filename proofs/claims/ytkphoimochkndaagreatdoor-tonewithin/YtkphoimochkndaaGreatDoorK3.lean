/- The machine, the contracts and the walks on which ToneDepths rests: a part of the proof. -/
import Derived.Test.YtkphoimochkndaaGreatDoorK2
import Derived.Laws.StructEq
import Derived.Laws.Strings
import GoSem.Builtin.Max
section
/- More small functions: complex integers. -/
set_option maxRecDepth 100000
set_option linter.unusedVariables false
set_option linter.unusedSimpArgs false
namespace Go.Proofs.Ab.Tone
open Go Go.RowKit Go.Proofs.Ab
theorem first2_pure (a b : Int) : APure C 98 [.seq 1 [[I a], [I b]]] (I (firstOf [a, b])) := first_pure [a, b] (by simp)
theorem first3_pure (a b c : Int) : APure C 98 [.seq 1 [[I a], [I b], [I c]]] (I (firstOf [a, b, c])) := first_pure [a, b, c] (by simp)
theorem first4_pure (a b c d : Int) : APure C 98 [.seq 1 [[I a], [I b], [I c], [I d]]] (I (firstOf [a, b, c, d])) := first_pure [a, b, c, d] (by simp)
theorem first5_pure (a b c d e : Int) : APure C 98 [.seq 1 [[I a], [I b], [I c], [I d], [I e]]] (I (firstOf [a, b, c, d, e])) := first_pure [a, b, c, d, e] (by simp)
theorem first6_pure (a b c d e f : Int) : APure C 98 [.seq 1 [[I a], [I b], [I c], [I d], [I e], [I f]]] (I (firstOf [a, b, c, d, e, f])) := first_pure [a, b, c, d, e, f] (by simp)

def sizedE (n most : Int) : Int := if n = 0 then 12 else if most < n then 5 else 0
theorem sized_pure (n most : Int) : APure C 151 [I n, I most] (I (sizedE n most)) := by
  refine APure.of_body good [] (fn := Tryz.f151) (by kernel_rfl) (by kernel_rfl) rfl rfl (by kernel_rfl) rfl (by kernel_rfl) ?_
  conv => whnf
  repeat' (first
    | (refine codeK_sound good (mu := []) ?_; conv => whnf)
    | ((first | rw [wl0] | rw [wl1] | rw [wl2] | rw [wl3] | rw [wl4] | rw [wl5]); conv => whnf)
    | (refine SBool.mk (fun _ => ?_) (fun h => absurd (of_decide_eq_true rfl) h); conv => whnf)
    | (refine SBool.mk (fun h => absurd h (of_decide_eq_false rfl)) (fun _ => ?_); conv => whnf)
    | (refine SBool.mk (fun h => ?_) (fun h => ?_) <;> conv => whnf)
    | (refine SEx.mk _ (by first | exact when_pure _ _ | exact first2_pure _ _) ?_; conv => whnf)
    | (refine SEx.mk _ (by first | exact rfl | exact ⟨of_decide_eq_true rfl, rfl⟩) ?_; conv => whnf)
    | (refine SAll.mk (fun _ => ?_); conv => whnf)
    | (refine SAnd.mk ⟨by intro c hc; simp at hc; first | (subst hc; rfl) | ((repeat' (rcases hc with rfl | hc)) <;> first | rfl | (subst hc; rfl)), by (simp; first | done | omega), by (simp; first | done | omega)⟩ ?_; conv => whnf)
    | (refine SAnd.mk (by first | exact rfl | kernel_rfl | omega | decide | exact when_pure _ _ | exact first2_pure _ _) ?_; conv => whnf)
    | fail)
  all_goals exact ⟨PLe.of_eq (by simp [sizedE, firstOf, *])⟩
def partE (re im most : Int) : Int := firstOf [within re (wrap64 (0 - most)) most, within im (wrap64 (0 - most)) most]
theorem part_pure (re im most : Int) : APure C 107 [.agg [I re, I im], I most] (I (partE re im most)) := by
  refine APure.of_body good [] (fn := Tryz.f107) (by kernel_rfl) (by kernel_rfl) rfl rfl (by kernel_rfl) rfl (by kernel_rfl) ?_
  conv => whnf
  repeat' (first
    | (refine codeK_sound good (mu := []) ?_; conv => whnf)
    | ((first | rw [wl0] | rw [wl1] | rw [wl2] | rw [wl3] | rw [wl4] | rw [wl5]); conv => whnf)
    | (refine SBool.mk (fun _ => ?_) (fun h => absurd (of_decide_eq_true rfl) h); conv => whnf)
    | (refine SBool.mk (fun h => absurd h (of_decide_eq_false rfl)) (fun _ => ?_); conv => whnf)
    | (refine SBool.mk (fun h => ?_) (fun h => ?_) <;> conv => whnf)
    | (refine SEx.mk _ (by first | exact within_pure _ _ _ | exact first2_pure _ _) ?_; conv => whnf)
    | (refine SEx.mk _ (by first | exact rfl | exact ⟨of_decide_eq_true rfl, rfl⟩) ?_; conv => whnf)
    | (refine SAll.mk (fun _ => ?_); conv => whnf)
    | (refine SAnd.mk ⟨by intro c hc; simp at hc; first | (subst hc; rfl) | ((repeat' (rcases hc with rfl | hc)) <;> first | rfl | (subst hc; rfl)), by (simp; first | done | omega), by (simp; first | done | omega)⟩ ?_; conv => whnf)
    | (refine SAnd.mk (by first | exact rfl | kernel_rfl | omega | decide | exact within_pure _ _ _ | exact first2_pure _ _) ?_; conv => whnf)
    | fail)
  all_goals exact ⟨PLe.refl _⟩
theorem plus_pure (a b c d : Int) : APure C 102 [.agg [I a, I b], .agg [I c, I d]] (.agg [I (wrap64 (a + c)), I (wrap64 (b + d))]) := by
  refine APure.of_body good [] (fn := Tryz.f102) (by kernel_rfl) (by kernel_rfl) rfl rfl (by kernel_rfl) rfl (by kernel_rfl) ?_
  conv => whnf
  exact ⟨PLe.refl _⟩
theorem minus_pure (a b c d : Int) : APure C 166 [.agg [I a, I b], .agg [I c, I d]] (.agg [I (wrap64 (a - c)), I (wrap64 (b - d))]) := by
  refine APure.of_body good [] (fn := Tryz.f166) (by kernel_rfl) (by kernel_rfl) rfl rfl (by kernel_rfl) rfl (by kernel_rfl) ?_
  conv => whnf
  exact ⟨PLe.refl _⟩
theorem conjugate_pure (a b : Int) : APure C 157 [.agg [I a, I b]] (.agg [I a, I (wrap64 (0 - b))]) := by
  refine APure.of_body good [] (fn := Tryz.f157) (by kernel_rfl) (by kernel_rfl) rfl rfl (by kernel_rfl) rfl (by kernel_rfl) ?_
  conv => whnf
  exact ⟨PLe.refl _⟩
theorem square_pure (a b : Int) : APure C 88 [.agg [I a, I b]] (I (wrap64 (wrap64 (a * a) + wrap64 (b * b)))) := by
  refine APure.of_body good [] (fn := Tryz.f88) (by kernel_rfl) (by kernel_rfl) rfl rfl (by kernel_rfl) rfl (by kernel_rfl) ?_
  conv => whnf
  exact ⟨PLe.refl _⟩
theorem number_pure (a b : Int) : APure C 161 [.agg [I a, I b]] (.v (.complex .f64 (floatOfInt .f64 a) (floatOfInt .f64 b))) := by
  refine APure.of_body good [] (fn := Tryz.f161) (by kernel_rfl) (by kernel_rfl) rfl rfl (by kernel_rfl) rfl (by kernel_rfl) ?_
  conv => whnf
  refine SEx.mk _ (fun w => run_convert_int_float w 3 227 .i64 .f64 a (by kernel_rfl) (by kernel_rfl)) ?_
  conv => whnf
  refine SEx.mk _ (fun w => run_convert_int_float w 3 227 .i64 .f64 b (by kernel_rfl) (by kernel_rfl)) ?_
  conv => whnf
  all_goals exact ⟨PLe.refl _⟩
theorem numbers_pure (a b c d e f : Int) : APure C 158 [.agg [I a, I b, I c, I d, I e, I f]] (.agg [I a, I b, I c, I d, I e, I f]) := by
  refine APure.of_body good [] (fn := Tryz.f158) (by kernel_rfl) (by kernel_rfl) rfl rfl (by kernel_rfl) rfl (by kernel_rfl) ?_
  conv => whnf
  exact ⟨PLe.refl _⟩
end Go.Proofs.Ab.Tone
end
section
/- Products of complex integers, by floats. -/
set_option maxRecDepth 100000
set_option linter.unusedVariables false
set_option linter.unusedSimpArgs false
namespace Go.Proofs.Ab.Tone
open Go Go.RowKit Go.Proofs.Ab
theorem mul_lt {a b : Int} {m n k : Nat} (h1 : a.natAbs ≤ m) (h2 : b.natAbs ≤ n) (h : m * n < k) : (a * b).natAbs < k := by
  rw [Int.natAbs_mul]
  exact Nat.lt_of_le_of_lt (Nat.mul_le_mul h1 h2) h
theorem times_pure (a b c d : Int) (h1 : a.natAbs ≤ 4000000) (h2 : b.natAbs ≤ 4000000) (h3 : c.natAbs ≤ 1000000) (h4 : d.natAbs ≤ 1000000) :
    APure C 105 [.agg [I a, I b], .agg [I c, I d]] (.agg [I (a * c - b * d), I (a * d + b * c)]) := by
  have e1 := mul_lt h1 h3 (k := 2 ^ 52) (by decide)
  have e2 := mul_lt h2 h4 (k := 2 ^ 52) (by decide)
  have e3 := mul_lt h1 h4 (k := 2 ^ 52) (by decide)
  have e4 := mul_lt h2 h3 (k := 2 ^ 52) (by decide)
  obtain ⟨re, im, hm, hre, him⟩ := cMul_int (FInt.ofInt (n := a) (by omega)) (FInt.ofInt (n := b) (by omega)) (FInt.ofInt (n := c) (by omega)) (FInt.ofInt (n := d) (by omega)) e1 e2 e3 e4
  have i1 := hre.int (by omega) (by omega)
  have i2 := him.int (by omega) (by omega)
  refine APure.of_body good [] (fn := Tryz.f105) (by kernel_rfl) (by kernel_rfl) rfl rfl (by kernel_rfl) rfl (by kernel_rfl) ?_
  conv => whnf
  repeat' (first
    | (refine codeK_sound good (mu := []) ?_; conv => whnf)
    | ((first | rw [wl0] | rw [wl1] | rw [wl2] | rw [wl3] | rw [wl4] | rw [wl5]); conv => whnf)
    | (refine SBool.mk (fun _ => ?_) (fun h => absurd (of_decide_eq_true rfl) h); conv => whnf)
    | (refine SBool.mk (fun h => absurd h (of_decide_eq_false rfl)) (fun _ => ?_); conv => whnf)
    | (refine SBool.mk (fun h => ?_) (fun h => ?_) <;> conv => whnf)
    | (refine SEx.mk _ (by first | exact number_pure _ _) ?_; conv => whnf)
    | (refine SEx.mk _ (by first | exact rfl | exact ⟨of_decide_eq_true rfl, rfl⟩) ?_; conv => whnf)
    | (refine SAll.mk (fun _ => ?_); conv => whnf)
    | (refine SAnd.mk ⟨by intro c hc; simp at hc; first | (subst hc; rfl) | ((repeat' (rcases hc with rfl | hc)) <;> first | rfl | (subst hc; rfl)), by (simp; first | done | omega), by (simp; first | done | omega)⟩ ?_; conv => whnf)
    | (refine SAnd.mk (by first | exact rfl | kernel_rfl | omega | decide | exact number_pure _ _) ?_; conv => whnf)
    | fail)
  refine SEx.mk _ (fun w => run_complex_mul w 225 _ _ _ _ re im hm) ?_
  conv => whnf
  refine SEx.mk _ (fun w => run_convert_float_int w 227 3 .f64 .i64 _ _ (by kernel_rfl) (by kernel_rfl) i1) ?_
  conv => whnf
  refine SEx.mk _ (fun w => run_convert_float_int w 227 3 .f64 .i64 _ _ (by kernel_rfl) (by kernel_rfl) i2) ?_
  conv => whnf
  exact ⟨PLe.refl _⟩
end Go.Proofs.Ab.Tone
end
section
/- What is made of each element of a list. -/
set_option maxRecDepth 100000
set_option linter.unusedVariables false
set_option linter.unusedSimpArgs false
namespace Go.Proofs.Ab.Tone
open Go Go.RowKit Go.Proofs.Ab
structure G where
  re : Int
  im : Int
  deriving DecidableEq
abbrev gc (a : G) : List PV := [I a.re, I a.im]
structure Sg where
  c : G
  l : G
  h : G
  deriving DecidableEq
abbrev sc (s : Sg) : List PV := [I s.c.re, I s.c.im, I s.l.re, I s.l.im, I s.h.re, I s.h.im]
theorem take_map_succ {α β : Type} {xs : List α} {k : Nat} (h : k < xs.length) (f : α → β) : (xs.take (k + 1)).map f = (xs.take k).map f ++ [f xs[k]] := by
  rw [List.take_succ_eq_append_getElem h, List.map_append]
  rfl
theorem mapped159_pure (f : G → Int) (g : FuncId) (caps : List PV) (xs : List G) (hl : xs.length ≤ 1000000) (h : ∀ x ∈ xs, APure C g (.agg (gc x) :: caps) (I (f x))) :
    APure C 159 [.seq 2 (xs.map gc), .fn g caps] (.seq 1 (xs.map fun x => [I (f x)])) := by
  refine APure.of_body good [] (fn := Tryz.f159) (by kernel_rfl) (by kernel_rfl) rfl rfl (by kernel_rfl) rfl (by kernel_rfl) ?_
  conv => whnf
  refine ⟨AWp.loop (ι := { k : Nat // k ≤ xs.length }) (fun k => ⟨[(10, .p (I k.1)), (9, .p (I xs.length)), (8, .p (.seq 2 (xs.map gc))), (5, .own 0), (1, .p (.fn g caps))], [], [(0, (29, 1, (xs.take k.1).map fun x => [I (f x)]))], 1, [], [], []⟩) (fun k => xs.length - k.1) ⟨0, by simp⟩ ?_ ?_⟩
  · refine SLe.row 5 29 1 ?_
    conv => whnf
    refine SLe.of [] [(0, 0)] rfl rfl ?_
    conv => whnf
    refine SAnd.mk (PLe.refl _) ?_
    conv => whnf
    refine SAnd.mk (PLe.of_eq (by simp)) ?_
    conv => whnf
    refine SAnd.mk (PLe.refl _) ?_
    conv => whnf
    refine SAnd.mk (PLe.refl _) ?_
    conv => whnf
    refine SAnd.mk rfl ?_
    exact True.intro
  · rintro ⟨k, hk⟩
    refine codeK_sound good (mu := []) ?_
    conv => whnf
    refine SBool.mk (fun hc => ?_) (fun hc => ?_)
    · conv => whnf
      have hkl : k < xs.length := by simpa using hc
      refine SEx.mk (gc xs[k]) (by simp [hkl]) ?_
      conv => whnf
      refine SEx.mk _ (h xs[k] (List.getElem_mem hkl)) ?_
      conv => whnf
      refine SAnd.mk ⟨by intro c hc; simp at hc; subst hc; rfl, by simp; omega, by simp; omega⟩ ?_
      conv => whnf
      refine ⟨⟨k + 1, by omega⟩, by simp only; omega, ?_⟩
      refine SLe.of [] [(0, 2)] rfl rfl ?_
      conv => whnf
      refine SAnd.mk (PLe.of_eq (by simp only [wrapK]; rw [wrap_id (by omega) (by omega)]; simp)) ?_
      conv => whnf
      refine SAnd.mk (PLe.refl _) ?_
      conv => whnf
      refine SAnd.mk (PLe.refl _) ?_
      conv => whnf
      refine SAnd.mk (PLe.refl _) ?_
      conv => whnf
      refine SAnd.mk (take_map_succ hkl _).symm ?_
      exact True.intro
    · conv => whnf
      have : k = xs.length := by simp at hc; omega
      subst this
      exact ⟨PLe.of_eq (by simp)⟩
theorem mapped164_pure (f : Sg → Int) (g : FuncId) (caps : List PV) (xs : List Sg) (hl : xs.length ≤ 1000000) (h : ∀ x ∈ xs, APure C g (.agg (sc x) :: caps) (I (f x))) :
    APure C 164 [.seq 6 (xs.map sc), .fn g caps] (.seq 1 (xs.map fun x => [I (f x)])) := by
  refine APure.of_body good [] (fn := Tryz.f164) (by kernel_rfl) (by kernel_rfl) rfl rfl (by kernel_rfl) rfl (by kernel_rfl) ?_
  conv => whnf
  refine ⟨AWp.loop (ι := { k : Nat // k ≤ xs.length }) (fun k => ⟨[(10, .p (I k.1)), (9, .p (I xs.length)), (8, .p (.seq 6 (xs.map sc))), (5, .own 0), (1, .p (.fn g caps))], [], [(0, (29, 1, (xs.take k.1).map fun x => [I (f x)]))], 1, [], [], []⟩) (fun k => xs.length - k.1) ⟨0, by simp⟩ ?_ ?_⟩
  · refine SLe.row 5 29 1 ?_
    conv => whnf
    refine SLe.of [] [(0, 0)] rfl rfl ?_
    conv => whnf
    refine SAnd.mk (PLe.refl _) ?_
    conv => whnf
    refine SAnd.mk (PLe.of_eq (by simp)) ?_
    conv => whnf
    refine SAnd.mk (PLe.refl _) ?_
    conv => whnf
    refine SAnd.mk (PLe.refl _) ?_
    conv => whnf
    refine SAnd.mk rfl ?_
    exact True.intro
  · rintro ⟨k, hk⟩
    refine codeK_sound good (mu := []) ?_
    conv => whnf
    refine SBool.mk (fun hc => ?_) (fun hc => ?_)
    · conv => whnf
      have hkl : k < xs.length := by simpa using hc
      refine SEx.mk (sc xs[k]) (by simp [hkl]) ?_
      conv => whnf
      refine SEx.mk _ (h xs[k] (List.getElem_mem hkl)) ?_
      conv => whnf
      refine SAnd.mk ⟨by intro c hc; simp at hc; subst hc; rfl, by simp; omega, by simp; omega⟩ ?_
      conv => whnf
      refine ⟨⟨k + 1, by omega⟩, by simp only; omega, ?_⟩
      refine SLe.of [] [(0, 2)] rfl rfl ?_
      conv => whnf
      refine SAnd.mk (PLe.of_eq (by simp only [wrapK]; rw [wrap_id (by omega) (by omega)]; simp)) ?_
      conv => whnf
      refine SAnd.mk (PLe.refl _) ?_
      conv => whnf
      refine SAnd.mk (PLe.refl _) ?_
      conv => whnf
      refine SAnd.mk (PLe.refl _) ?_
      conv => whnf
      refine SAnd.mk (take_map_succ hkl _).symm ?_
      exact True.intro
    · conv => whnf
      have : k = xs.length := by simp at hc; omega
      subst this
      exact ⟨PLe.of_eq (by simp)⟩
theorem mapped117_pure (f : Sg → Int) (g : FuncId) (caps : List PV) (xs : List Sg) (hl : xs.length ≤ 1000000) (h : ∀ x ∈ xs, APure C g (.agg (sc x) :: caps) (I (f x))) :
    APure C 117 [.seq 6 (xs.map sc), .fn g caps] (.seq 1 (xs.map fun x => [I (f x)])) := by
  refine APure.of_body good [] (fn := Tryz.f117) (by kernel_rfl) (by kernel_rfl) rfl rfl (by kernel_rfl) rfl (by kernel_rfl) ?_
  conv => whnf
  refine ⟨AWp.loop (ι := { k : Nat // k ≤ xs.length }) (fun k => ⟨[(10, .p (I k.1)), (9, .p (I xs.length)), (8, .p (.seq 6 (xs.map sc))), (5, .own 0), (1, .p (.fn g caps))], [], [(0, (3, 1, (xs.take k.1).map fun x => [I (f x)]))], 1, [], [], []⟩) (fun k => xs.length - k.1) ⟨0, by simp⟩ ?_ ?_⟩
  · refine SLe.row 5 3 1 ?_
    conv => whnf
    refine SLe.of [] [(0, 0)] rfl rfl ?_
    conv => whnf
    refine SAnd.mk (PLe.refl _) ?_
    conv => whnf
    refine SAnd.mk (PLe.of_eq (by simp)) ?_
    conv => whnf
    refine SAnd.mk (PLe.refl _) ?_
    conv => whnf
    refine SAnd.mk (PLe.refl _) ?_
    conv => whnf
    refine SAnd.mk rfl ?_
    exact True.intro
  · rintro ⟨k, hk⟩
    refine codeK_sound good (mu := []) ?_
    conv => whnf
    refine SBool.mk (fun hc => ?_) (fun hc => ?_)
    · conv => whnf
      have hkl : k < xs.length := by simpa using hc
      refine SEx.mk (sc xs[k]) (by simp [hkl]) ?_
      conv => whnf
      refine SEx.mk _ (h xs[k] (List.getElem_mem hkl)) ?_
      conv => whnf
      refine SAnd.mk ⟨by intro c hc; simp at hc; subst hc; rfl, by simp; omega, by simp; omega⟩ ?_
      conv => whnf
      refine ⟨⟨k + 1, by omega⟩, by simp only; omega, ?_⟩
      refine SLe.of [] [(0, 2)] rfl rfl ?_
      conv => whnf
      refine SAnd.mk (PLe.of_eq (by simp only [wrapK]; rw [wrap_id (by omega) (by omega)]; simp)) ?_
      conv => whnf
      refine SAnd.mk (PLe.refl _) ?_
      conv => whnf
      refine SAnd.mk (PLe.refl _) ?_
      conv => whnf
      refine SAnd.mk (PLe.refl _) ?_
      conv => whnf
      refine SAnd.mk (take_map_succ hkl _).symm ?_
      exact True.intro
    · conv => whnf
      have : k = xs.length := by simp at hc; omega
      subst this
      exact ⟨PLe.of_eq (by simp)⟩
theorem mapped137_pure (f : Sg → ByteArray) (g : FuncId) (caps : List PV) (xs : List Sg) (hl : xs.length ≤ 1000000) (h : ∀ x ∈ xs, APure C g (.agg (sc x) :: caps) (St (f x))) :
    APure C 137 [.seq 6 (xs.map sc), .fn g caps] (.seq 1 (xs.map fun x => [St (f x)])) := by
  refine APure.of_body good [] (fn := Tryz.f137) (by kernel_rfl) (by kernel_rfl) rfl rfl (by kernel_rfl) rfl (by kernel_rfl) ?_
  conv => whnf
  refine ⟨AWp.loop (ι := { k : Nat // k ≤ xs.length }) (fun k => ⟨[(10, .p (I k.1)), (9, .p (I xs.length)), (8, .p (.seq 6 (xs.map sc))), (5, .own 0), (1, .p (.fn g caps))], [], [(0, (9, 1, (xs.take k.1).map fun x => [St (f x)]))], 1, [], [], []⟩) (fun k => xs.length - k.1) ⟨0, by simp⟩ ?_ ?_⟩
  · refine SLe.row 5 9 1 ?_
    conv => whnf
    refine SLe.of [] [(0, 0)] rfl rfl ?_
    conv => whnf
    refine SAnd.mk (PLe.refl _) ?_
    conv => whnf
    refine SAnd.mk (PLe.of_eq (by simp)) ?_
    conv => whnf
    refine SAnd.mk (PLe.refl _) ?_
    conv => whnf
    refine SAnd.mk (PLe.refl _) ?_
    conv => whnf
    refine SAnd.mk rfl ?_
    exact True.intro
  · rintro ⟨k, hk⟩
    refine codeK_sound good (mu := []) ?_
    conv => whnf
    refine SBool.mk (fun hc => ?_) (fun hc => ?_)
    · conv => whnf
      have hkl : k < xs.length := by simpa using hc
      refine SEx.mk (sc xs[k]) (by simp [hkl]) ?_
      conv => whnf
      refine SEx.mk _ (h xs[k] (List.getElem_mem hkl)) ?_
      conv => whnf
      refine SAnd.mk ⟨by intro c hc; simp at hc; subst hc; rfl, by simp; omega, by simp; omega⟩ ?_
      conv => whnf
      refine ⟨⟨k + 1, by omega⟩, by simp only; omega, ?_⟩
      refine SLe.of [] [(0, 2)] rfl rfl ?_
      conv => whnf
      refine SAnd.mk (PLe.of_eq (by simp only [wrapK]; rw [wrap_id (by omega) (by omega)]; simp)) ?_
      conv => whnf
      refine SAnd.mk (PLe.refl _) ?_
      conv => whnf
      refine SAnd.mk (PLe.refl _) ?_
      conv => whnf
      refine SAnd.mk (PLe.refl _) ?_
      conv => whnf
      refine SAnd.mk (take_map_succ hkl _).symm ?_
      exact True.intro
    · conv => whnf
      have : k = xs.length := by simp at hc; omega
      subst this
      exact ⟨PLe.of_eq (by simp)⟩
end Go.Proofs.Ab.Tone
end
section
/- Structs compared. -/
set_option maxRecDepth 100000
set_option linter.unusedVariables false
set_option linter.unusedSimpArgs false
namespace Go.Proofs.Ab.Tone
open Go Go.RowKit Go.Proofs.Ab
theorem eq2 {P : Program} {t : TypeId} {f1 f2 : Field} (hS : P.underlying t = some (.struct (P.fieldsOf t))) (hp : P.stoodInHeld t = false) (hf : (P.fieldsOf t).toList = [f1, f2]) (hn1 : f1.name ≠ "_") (hn2 : f2.name ≠ "_")
    (hu1 : P.underlying f1.type = some (.int .i64)) (hu2 : P.underlying f2.type = some (.int .i64)) (ho1 : f1.offset = 0) (ho2 : f2.offset = 1) (a b c d : Int) (k : Nat) (w : World) :
    (Op.equalIn (k + 2) t (.agg #[.int .i64 a, .int .i64 b]) (.agg #[.int .i64 c, .int .i64 d])).run P w = .ok (decide (a = c ∧ b = d)) w := by
  rw [run_equalIn_struct w (k + 1) t _ _ hS hp, hf]
  by_cases h1 : a = c <;> by_cases h2 : b = d <;> simp [Op.eqFields, hn1, hn2, part, isAgg, run_underlying hu1, run_underlying hu2, ho1, ho2, run_equalIn_int w k f1.type .i64 .i64 _ _ hu1, run_equalIn_int w k f2.type .i64 .i64 _ _ hu2, h1, h2]
theorem eqAgg2 {t : TypeId} {f1 f2 : Field} (hS : C.P.underlying t = some (.struct (C.P.fieldsOf t))) (hp : C.P.stoodInHeld t = false) (hf : (C.P.fieldsOf t).toList = [f1, f2]) (hn1 : f1.name ≠ "_") (hn2 : f2.name ≠ "_")
    (hu1 : C.P.underlying f1.type = some (.int .i64)) (hu2 : C.P.underlying f2.type = some (.int .i64)) (ho1 : f1.offset = 0) (ho2 : f2.offset = 1) (hm : C.P.eqGuardType C.P.depth t = false) (a b c d : Int) :
    EqAgg C t [I a, I b] [I c, I d] (decide (a = c ∧ b = d)) := by
  intro x y w ok us vs hu hv
  obtain ⟨u1, us1, rfl, h1, hu⟩ := hu.uncons
  obtain ⟨u2, us2, rfl, h2, hu⟩ := hu.uncons
  obtain rfl := hu.unnil
  obtain ⟨v1, vs1, rfl, h3, hv⟩ := hv.uncons
  obtain ⟨v2, vs2, rfl, h4, hv⟩ := hv.uncons
  obtain rfl := hv.unnil
  cases h1; cases h2; cases h3; cases h4
  exact ⟨run_eqGuard_agg w _ t x y _ _ hm, run_eqGuard_agg w _ t x y _ _ hm, eq2 hS hp hf hn1 hn2 hu1 hu2 ho1 ho2 a b c d 9998 w⟩
theorem eq6 {P : Program} {t g : TypeId} {f1 f2 f3 : Field} {i : TypeInfo} {fs : Array Field} (hS : P.underlying t = some (.struct (P.fieldsOf t))) (hp : P.stoodInHeld t = false) (hf : (P.fieldsOf t).toList = [f1, f2, f3]) (hn1 : f1.name ≠ "_") (hn2 : f2.name ≠ "_") (hn3 : f3.name ≠ "_")
    (ht1 : f1.type = g) (ht2 : f2.type = g) (ht3 : f3.type = g) (ho1 : f1.offset = 0) (ho2 : f2.offset = 2) (ho3 : f3.offset = 4) (hg : P.underlying g = some (.struct fs)) (hi : P.info? g = some i) (hi2 : i.size = 2)
    (heq : ∀ (a b c d : Int) (k : Nat) (w : World), (Op.equalIn (k + 2) g (.agg #[.int .i64 a, .int .i64 b]) (.agg #[.int .i64 c, .int .i64 d])).run P w = .ok (decide (a = c ∧ b = d)) w) (a b c d e f a' b' c' d' e' f' : Int) (k : Nat) (w : World) :
    (Op.equalIn (k + 3) t (.agg #[.int .i64 a, .int .i64 b, .int .i64 c, .int .i64 d, .int .i64 e, .int .i64 f]) (.agg #[.int .i64 a', .int .i64 b', .int .i64 c', .int .i64 d', .int .i64 e', .int .i64 f'])).run P w = .ok (decide ((a = a' ∧ b = b') ∧ (c = c' ∧ d = d') ∧ (e = e' ∧ f = f'))) w := by
  rw [run_equalIn_struct w (k + 2) t _ _ hS hp, hf]
  have p : ∀ (xs : Array Value) (off : Nat) (u v : Value), off + 2 ≤ xs.size → xs.extract off (off + 2) = #[u, v] → (part g xs off).run P w = .ok (.agg #[u, v]) w := by
    intro xs off u v hx he
    simp [part, isAgg, run_underlying hg, sizeOf, typeInfo, hi, hi2, he, hx]
  have q1 := fun x1 x2 x3 x4 x5 x6 : Value => p #[x1, x2, x3, x4, x5, x6] 0 x1 x2 (by simp) (by simp)
  have q2 := fun x1 x2 x3 x4 x5 x6 : Value => p #[x1, x2, x3, x4, x5, x6] 2 x3 x4 (by simp) (by simp)
  have q3 := fun x1 x2 x3 x4 x5 x6 : Value => p #[x1, x2, x3, x4, x5, x6] 4 x5 x6 (by simp) (by simp)
  simp only [Op.eqFields, hn1, hn2, hn3, ht1, ht2, ht3, ho1, ho2, ho3, ne_eq, not_false_eq_true, if_true, Sem.run_bind, q1, q2, q3, Result.andThen_ok, heq]
  by_cases h1 : a = a' ∧ b = b'
  · by_cases h2 : c = c' ∧ d = d'
    · by_cases h3 : e = e' ∧ f = f'
      · simp [h1, h2, h3, heq, q1, q2, q3]
      · simp [h1, h2, h3, heq, q1, q2, q3]
    · simp [h1, h2, heq, q1, q2, q3]
  · simp [h1, q1, q2, q3]
theorem eqAgg6 {t g : TypeId} {f1 f2 f3 : Field} {i : TypeInfo} {fs : Array Field} (hS : C.P.underlying t = some (.struct (C.P.fieldsOf t))) (hp : C.P.stoodInHeld t = false) (hf : (C.P.fieldsOf t).toList = [f1, f2, f3]) (hn1 : f1.name ≠ "_") (hn2 : f2.name ≠ "_") (hn3 : f3.name ≠ "_")
    (ht1 : f1.type = g) (ht2 : f2.type = g) (ht3 : f3.type = g) (ho1 : f1.offset = 0) (ho2 : f2.offset = 2) (ho3 : f3.offset = 4) (hg : C.P.underlying g = some (.struct fs)) (hi : C.P.info? g = some i) (hi2 : i.size = 2) (hm : C.P.eqGuardType C.P.depth t = false)
    (heq : ∀ (a b c d : Int) (k : Nat) (w : World), (Op.equalIn (k + 2) g (.agg #[.int .i64 a, .int .i64 b]) (.agg #[.int .i64 c, .int .i64 d])).run C.P w = .ok (decide (a = c ∧ b = d)) w) (a b c d e f a' b' c' d' e' f' : Int) :
    EqAgg C t [I a, I b, I c, I d, I e, I f] [I a', I b', I c', I d', I e', I f'] (decide ((a = a' ∧ b = b') ∧ (c = c' ∧ d = d') ∧ (e = e' ∧ f = f'))) := by
  intro x y w ok us vs hu hv
  obtain ⟨u1, us1, rfl, h1, hu⟩ := hu.uncons
  obtain ⟨u2, us2, rfl, h2, hu⟩ := hu.uncons
  obtain ⟨u3, us3, rfl, h3, hu⟩ := hu.uncons
  obtain ⟨u4, us4, rfl, h4, hu⟩ := hu.uncons
  obtain ⟨u5, us5, rfl, h5, hu⟩ := hu.uncons
  obtain ⟨u6, us6, rfl, h6, hu⟩ := hu.uncons
  obtain rfl := hu.unnil
  obtain ⟨v1, vs1, rfl, g1, hv⟩ := hv.uncons
  obtain ⟨v2, vs2, rfl, g2, hv⟩ := hv.uncons
  obtain ⟨v3, vs3, rfl, g3, hv⟩ := hv.uncons
  obtain ⟨v4, vs4, rfl, g4, hv⟩ := hv.uncons
  obtain ⟨v5, vs5, rfl, g5, hv⟩ := hv.uncons
  obtain ⟨v6, vs6, rfl, g6, hv⟩ := hv.uncons
  obtain rfl := hv.unnil
  cases h1; cases h2; cases h3; cases h4; cases h5; cases h6; cases g1; cases g2; cases g3; cases g4; cases g5; cases g6
  exact ⟨run_eqGuard_agg w _ t x y _ _ hm, run_eqGuard_agg w _ t x y _ _ hm, eq6 hS hp hf hn1 hn2 hn3 ht1 ht2 ht3 ho1 ho2 ho3 hg hi hi2 heq a b c d e f a' b' c' d' e' f' 9997 w⟩
theorem eq_gauss (a b c d : Int) : EqAgg C 23 [I a, I b] [I c, I d] (decide (a = c ∧ b = d)) :=
  eqAgg2 (f1 := ⟨ "Re", 3, 0, false, "", "", 0⟩) (f2 := ⟨ "Im", 3, 1, false, "", "", 8⟩) (by kernel_rfl) (by kernel_rfl) (by kernel_rfl) (by decide) (by decide) (by kernel_rfl) (by kernel_rfl) rfl rfl (by kernel_rfl) a b c d
theorem eq_ratio (a b c d : Int) : EqAgg C 28 [I a, I b] [I c, I d] (decide (a = c ∧ b = d)) :=
  eqAgg2 (f1 := ⟨ "Num", 3, 0, false, "", "", 0⟩) (f2 := ⟨ "Den", 3, 1, false, "", "", 8⟩) (by kernel_rfl) (by kernel_rfl) (by kernel_rfl) (by decide) (by decide) (by kernel_rfl) (by kernel_rfl) rfl rfl (by kernel_rfl) a b c d
theorem eq_interval (a b c d : Int) : EqAgg C 55 [I a, I b] [I c, I d] (decide (a = c ∧ b = d)) :=
  eqAgg2 (f1 := ⟨ "Low", 3, 0, false, "", "", 0⟩) (f2 := ⟨ "High", 3, 1, false, "", "", 8⟩) (by kernel_rfl) (by kernel_rfl) (by kernel_rfl) (by decide) (by decide) (by kernel_rfl) (by kernel_rfl) rfl rfl (by kernel_rfl) a b c d
theorem eqIn_gauss (a b c d : Int) (k : Nat) (w : World) : (Op.equalIn (k + 2) 23 (.agg #[.int .i64 a, .int .i64 b]) (.agg #[.int .i64 c, .int .i64 d])).run C.P w = .ok (decide (a = c ∧ b = d)) w :=
  eq2 (f1 := ⟨ "Re", 3, 0, false, "", "", 0⟩) (f2 := ⟨ "Im", 3, 1, false, "", "", 8⟩) (by kernel_rfl) (by kernel_rfl) (by kernel_rfl) (by decide) (by decide) (by kernel_rfl) (by kernel_rfl) rfl rfl a b c d k w
theorem eq_signal (a b c d e f a' b' c' d' e' f' : Int) : EqAgg C 32 [I a, I b, I c, I d, I e, I f] [I a', I b', I c', I d', I e', I f'] (decide ((a = a' ∧ b = b') ∧ (c = c' ∧ d = d') ∧ (e = e' ∧ f = f'))) :=
  eqAgg6 (g := 23) (i := Tryz.t23) (fs := #[⟨ "Re", 3, 0, false, "", "", 0⟩, ⟨ "Im", 3, 1, false, "", "", 8⟩]) (f1 := ⟨ "Carrier", 23, 0, false, "", "", 0⟩) (f2 := ⟨ "Low", 23, 2, false, "", "", 16⟩) (f3 := ⟨ "High", 23, 4, false, "", "", 32⟩) (by kernel_rfl) (by kernel_rfl) (by kernel_rfl) (by decide) (by decide) (by decide) rfl rfl rfl rfl rfl rfl (by kernel_rfl) (by kernel_rfl) rfl (by kernel_rfl) eqIn_gauss a b c d e f a' b' c' d' e' f'
theorem eq_rsignal (a b c d e f a' b' c' d' e' f' : Int) : EqAgg C 25 [I a, I b, I c, I d, I e, I f] [I a', I b', I c', I d', I e', I f'] (decide ((a = a' ∧ b = b') ∧ (c = c' ∧ d = d') ∧ (e = e' ∧ f = f'))) :=
  eqAgg6 (g := 23) (i := Tryz.t23) (fs := #[⟨ "Re", 3, 0, false, "", "", 0⟩, ⟨ "Im", 3, 1, false, "", "", 8⟩]) (f1 := ⟨ "Carrier", 23, 0, false, "", "", 0⟩) (f2 := ⟨ "Low", 23, 2, false, "", "", 16⟩) (f3 := ⟨ "High", 23, 4, false, "", "", 32⟩) (by kernel_rfl) (by kernel_rfl) (by kernel_rfl) (by decide) (by decide) (by decide) rfl rfl rfl rfl rfl rfl (by kernel_rfl) (by kernel_rfl) rfl (by kernel_rfl) eqIn_gauss a b c d e f a' b' c' d' e' f'
end Go.Proofs.Ab.Tone
end
section
/- Signals: their errors, products with the carrier. -/
set_option maxRecDepth 100000
set_option linter.unusedVariables false
set_option linter.unusedSimpArgs false
namespace Go.Proofs.Ab.Tone
open Go Go.RowKit Go.Proofs.Ab
def offE (a : G) (bad : Int) : Int := if partE a.re a.im 10000 = 0 then 0 else bad
theorem inside1_pure (bad : Int) (a : G) : APure C 160 [.agg (gc a), .ref [I bad]] (I (offE a bad)) := by
  refine APure.of_body good [] (fn := Tryz.f160) (by kernel_rfl) (by kernel_rfl) rfl rfl (by kernel_rfl) rfl (by kernel_rfl) ?_
  conv => whnf
  repeat' (first
    | (refine codeK_sound good (mu := []) ?_; conv => whnf)
    | ((first | rw [wl0] | rw [wl1] | rw [wl2] | rw [wl3] | rw [wl4] | rw [wl5]); conv => whnf)
    | (refine SBool.mk (fun _ => ?_) (fun h => absurd (of_decide_eq_true rfl) h); conv => whnf)
    | (refine SBool.mk (fun h => absurd h (of_decide_eq_false rfl)) (fun _ => ?_); conv => whnf)
    | (refine SBool.mk (fun h => ?_) (fun h => ?_) <;> conv => whnf)
    | (refine SEx.mk _ (by first | exact part_pure _ _ _ | exact when_pure _ _) ?_; conv => whnf)
    | (refine SEx.mk _ (by first | exact rfl | exact ⟨of_decide_eq_true rfl, rfl⟩) ?_; conv => whnf)
    | (refine SAll.mk (fun _ => ?_); conv => whnf)
    | (refine SAnd.mk ⟨by intro c hc; simp at hc; first | (subst hc; rfl) | ((repeat' (rcases hc with rfl | hc)) <;> first | rfl | (subst hc; rfl)), by (simp; first | done | omega), by (simp; first | done | omega)⟩ ?_; conv => whnf)
    | (refine SAnd.mk (by first | exact rfl | kernel_rfl | omega | decide | exact part_pure _ _ _ | exact when_pure _ _) ?_; conv => whnf)
    | fail)
  all_goals exact ⟨PLe.of_eq (by simp [offE, *])⟩
def insideE (s : Sg) (bad : Int) : Int := firstOf [offE s.c bad, offE s.l bad, offE s.h bad]
theorem inside_pure (s : Sg) (bad : Int) : APure C 99 [.agg (sc s), I bad] (I (insideE s bad)) := by
  refine APure.of_body good [] (fn := Tryz.f99) (by kernel_rfl) (by kernel_rfl) rfl rfl (by kernel_rfl) rfl (by kernel_rfl) ?_
  conv => whnf
  repeat' (first
    | (refine codeK_sound good (mu := []) ?_; conv => whnf)
    | ((first | rw [wl0] | rw [wl1] | rw [wl2] | rw [wl3] | rw [wl4] | rw [wl5]); conv => whnf)
    | (refine SBool.mk (fun _ => ?_) (fun h => absurd (of_decide_eq_true rfl) h); conv => whnf)
    | (refine SBool.mk (fun h => absurd h (of_decide_eq_false rfl)) (fun _ => ?_); conv => whnf)
    | (refine SBool.mk (fun h => ?_) (fun h => ?_) <;> conv => whnf)
    | (refine SEx.mk _ (by first | exact numbers_pure _ _ _ _ _ _ | exact mapped159_pure (fun a => offE a bad) 160 [.ref [I bad]] [s.c, s.l, s.h] (by simp) (fun x _ => inside1_pure bad x) | exact first3_pure _ _ _) ?_; conv => whnf)
    | (refine SEx.mk _ (by first | exact rfl | exact ⟨of_decide_eq_true rfl, rfl⟩) ?_; conv => whnf)
    | (refine SAll.mk (fun _ => ?_); conv => whnf)
    | (refine SAnd.mk ⟨by intro c hc; simp at hc; first | (subst hc; rfl) | ((repeat' (rcases hc with rfl | hc)) <;> first | rfl | (subst hc; rfl)), by (simp; first | done | omega), by (simp; first | done | omega)⟩ ?_; conv => whnf)
    | (refine SAnd.mk (by first | exact rfl | kernel_rfl | omega | decide | exact numbers_pure _ _ _ _ _ _ | exact mapped159_pure (fun a => offE a bad) 160 [.ref [I bad]] [s.c, s.l, s.h] (by simp) (fun x _ => inside1_pure bad x) | exact first3_pure _ _ _) ?_; conv => whnf)
    | fail)
  all_goals exact ⟨PLe.refl _⟩
def zeroE (a : G) : Int := if a.re = 0 ∧ a.im = 0 then 6 else 0
def checkE (s : Sg) : Int := firstOf [insideE s 3, zeroE s.c]
theorem CheckSignal_pure (s : Sg) : APure C 25 [.agg (sc s)] (I (checkE s)) := by
  refine APure.of_body good [] (fn := Tryz.f25) (by kernel_rfl) (by kernel_rfl) rfl rfl (by kernel_rfl) rfl (by kernel_rfl) ?_
  conv => whnf
  repeat' (first
    | (refine codeK_sound good (mu := []) ?_; conv => whnf)
    | ((first | rw [wl0] | rw [wl1] | rw [wl2] | rw [wl3] | rw [wl4] | rw [wl5]); conv => whnf)
    | (refine SBool.mk (fun _ => ?_) (fun h => absurd (of_decide_eq_true rfl) h); conv => whnf)
    | (refine SBool.mk (fun h => absurd h (of_decide_eq_false rfl)) (fun _ => ?_); conv => whnf)
    | (refine SBool.mk (fun h => ?_) (fun h => ?_) <;> conv => whnf)
    | (refine SEx.mk _ (by first | exact inside_pure s 3 | exact eq_gauss _ _ _ _ | exact when_pure _ _ | exact first2_pure _ _) ?_; conv => whnf)
    | (refine SEx.mk _ (by first | exact rfl | exact ⟨of_decide_eq_true rfl, rfl⟩) ?_; conv => whnf)
    | (refine SAll.mk (fun _ => ?_); conv => whnf)
    | (refine SAnd.mk ⟨by intro c hc; simp at hc; first | (subst hc; rfl) | ((repeat' (rcases hc with rfl | hc)) <;> first | rfl | (subst hc; rfl)), by (simp; first | done | omega), by (simp; first | done | omega)⟩ ?_; conv => whnf)
    | (refine SAnd.mk (by first | exact rfl | kernel_rfl | omega | decide | exact inside_pure s 3 | exact eq_gauss _ _ _ _ | exact when_pure _ _ | exact first2_pure _ _) ?_; conv => whnf)
    | fail)
  all_goals rw [decide_eq_true_eq] at h
  · exact ⟨PLe.of_eq (by simp only [checkE, zeroE]; rw [if_pos h]; rfl)⟩
  · exact ⟨PLe.of_eq (by simp only [checkE, zeroE]; rw [if_neg h]; rfl)⟩
/-- Both parts are at most 10000; .. of all three numbers. -/
structure G.Fit (a : G) (m : Nat) : Prop where
  re : a.re.natAbs ≤ m
  im : a.im.natAbs ≤ m
structure Sg.Fit (s : Sg) (m : Nat) : Prop where
  c : s.c.Fit m
  l : s.l.Fit m
  h : s.h.Fit m
theorem times_pure' (a b c d : Int) (h : (a.natAbs ≤ 4000000 ∧ b.natAbs ≤ 4000000) ∧ (c.natAbs ≤ 1000000 ∧ d.natAbs ≤ 1000000)) :
    APure C 105 [.agg [I a, I b], .agg [I c, I d]] (.agg [I (a * c - b * d), I (a * d + b * c)]) := times_pure a b c d h.1.1 h.1.2 h.2.1 h.2.2
theorem w64 {n : Int} (h : n.natAbs ≤ 4000000000000000000) : wrap64 n = n := wrap_id (by omega) (by omega)
def aga (s : Sg) (a : G) : Int := a.re * s.c.re + a.im * s.c.im
theorem against_pure (s : Sg) (a : G) (hs : s.c.Fit 1000000) (ha : a.Fit 4000000) : APure C 87 [.agg (sc s), .agg (gc a)] (I (aga s a)) := by
  have e1 := hs.re; have e2 := hs.im; have e3 := ha.re; have e4 := ha.im
  have w1 : wrap64 (0 - s.c.im) = -s.c.im := by rw [w64 (by omega)]; omega
  refine APure.of_body good [] (fn := Tryz.f87) (by kernel_rfl) (by kernel_rfl) rfl rfl (by kernel_rfl) rfl (by kernel_rfl) ?_
  conv => whnf
  repeat' (first
    | (refine codeK_sound good (mu := []) ?_; conv => whnf)
    | ((first | rw [wl0] | rw [wl1] | rw [wl2] | rw [wl3] | rw [wl4] | rw [wl5]); conv => whnf)
    | (refine SBool.mk (fun _ => ?_) (fun h => absurd (of_decide_eq_true rfl) h); conv => whnf)
    | (refine SBool.mk (fun h => absurd h (of_decide_eq_false rfl)) (fun _ => ?_); conv => whnf)
    | (refine SBool.mk (fun h => ?_) (fun h => ?_) <;> conv => whnf)
    | (refine SEx.mk _ (by first | exact conjugate_pure _ _) ?_; conv => whnf)
    | (refine SEx.mk _ (by first | exact rfl | exact ⟨of_decide_eq_true rfl, rfl⟩) ?_; conv => whnf)
    | (refine SAll.mk (fun _ => ?_); conv => whnf)
    | (refine SAnd.mk ⟨by intro c hc; simp at hc; first | (subst hc; rfl) | ((repeat' (rcases hc with rfl | hc)) <;> first | rfl | (subst hc; rfl)), by (simp; first | done | omega), by (simp; first | done | omega)⟩ ?_; conv => whnf)
    | (refine SAnd.mk (by first | exact rfl | kernel_rfl | omega | decide | exact conjugate_pure _ _) ?_; conv => whnf)
    | fail)
  rw [w1]
  refine SEx.mk _ (times_pure _ _ _ _ (by omega) (by omega) (by omega) (by omega)) ?_
  conv => whnf
  exact ⟨PLe.of_eq (by simp [aga, Int.mul_neg, Int.sub_neg])⟩
def G.sub (a b : G) : G := ⟨a.re - b.re, a.im - b.im⟩
def G.add (a b : G) : G := ⟨a.re + b.re, a.im + b.im⟩
theorem plus_fit (a b : G) (m : Nat) (hm : m ≤ 1000000000000000) (ha : a.Fit m) (hb : b.Fit m) : APure C 102 [.agg (gc a), .agg (gc b)] (.agg (gc (a.add b))) := by
  have e1 := ha.re; have e2 := ha.im; have e3 := hb.re; have e4 := hb.im
  have := plus_pure a.re a.im b.re b.im
  rw [w64 (n := a.re + b.re) (by omega), w64 (n := a.im + b.im) (by omega)] at this
  exact this
theorem minus_fit (a b : G) (m : Nat) (hm : m ≤ 1000000000000000) (ha : a.Fit m) (hb : b.Fit m) : APure C 166 [.agg (gc a), .agg (gc b)] (.agg (gc (a.sub b))) := by
  have e1 := ha.re; have e2 := ha.im; have e3 := hb.re; have e4 := hb.im
  have := minus_pure a.re a.im b.re b.im
  rw [w64 (n := a.re - b.re) (by omega), w64 (n := a.im - b.im) (by omega)] at this
  exact this
theorem G.Fit.sub {a b : G} {m : Nat} (ha : a.Fit m) (hb : b.Fit m) : (a.sub b).Fit (2 * m) := by
  have e1 := ha.re; have e2 := ha.im; have e3 := hb.re; have e4 := hb.im
  constructor <;> simp only [G.sub] <;> omega
theorem G.Fit.add {a b : G} {m : Nat} (ha : a.Fit m) (hb : b.Fit m) : (a.add b).Fit (2 * m) := by
  have e1 := ha.re; have e2 := ha.im; have e3 := hb.re; have e4 := hb.im
  constructor <;> simp only [G.add] <;> omega
theorem G.Fit.mono {a : G} {m n : Nat} (ha : a.Fit m) (h : m ≤ n) : a.Fit n := ⟨Nat.le_trans ha.re h, Nat.le_trans ha.im h⟩
def dif (s : Sg) : Int := aga s (s.l.sub s.h)
def tot (s : Sg) : Int := aga s (s.l.add s.h)
theorem difference_pure (s : Sg) (hs : s.Fit 1000000) : APure C 123 [.agg (sc s)] (I (dif s)) := by
  refine APure.of_body good [] (fn := Tryz.f123) (by kernel_rfl) (by kernel_rfl) rfl rfl (by kernel_rfl) rfl (by kernel_rfl) ?_
  conv => whnf
  repeat' (first
    | (refine codeK_sound good (mu := []) ?_; conv => whnf)
    | ((first | rw [wl0] | rw [wl1] | rw [wl2] | rw [wl3] | rw [wl4] | rw [wl5]); conv => whnf)
    | (refine SBool.mk (fun _ => ?_) (fun h => absurd (of_decide_eq_true rfl) h); conv => whnf)
    | (refine SBool.mk (fun h => absurd h (of_decide_eq_false rfl)) (fun _ => ?_); conv => whnf)
    | (refine SBool.mk (fun h => ?_) (fun h => ?_) <;> conv => whnf)
    | (refine SEx.mk _ (by first | exact minus_fit s.l s.h 1000000 (by decide) hs.l hs.h | exact against_pure s (s.l.sub s.h) hs.c ((hs.l.sub hs.h).mono (by decide))) ?_; conv => whnf)
    | (refine SEx.mk _ (by first | exact rfl | exact ⟨of_decide_eq_true rfl, rfl⟩) ?_; conv => whnf)
    | (refine SAll.mk (fun _ => ?_); conv => whnf)
    | (refine SAnd.mk ⟨by intro c hc; simp at hc; first | (subst hc; rfl) | ((repeat' (rcases hc with rfl | hc)) <;> first | rfl | (subst hc; rfl)), by (simp; first | done | omega), by (simp; first | done | omega)⟩ ?_; conv => whnf)
    | (refine SAnd.mk (by first | exact rfl | kernel_rfl | omega | decide | exact minus_fit s.l s.h 1000000 (by decide) hs.l hs.h | exact against_pure s (s.l.sub s.h) hs.c ((hs.l.sub hs.h).mono (by decide))) ?_; conv => whnf)
    | fail)
  all_goals exact ⟨PLe.refl _⟩
theorem sum_pure (s : Sg) (hs : s.Fit 1000000) : APure C 90 [.agg (sc s)] (I (tot s)) := by
  refine APure.of_body good [] (fn := Tryz.f90) (by kernel_rfl) (by kernel_rfl) rfl rfl (by kernel_rfl) rfl (by kernel_rfl) ?_
  conv => whnf
  repeat' (first
    | (refine codeK_sound good (mu := []) ?_; conv => whnf)
    | ((first | rw [wl0] | rw [wl1] | rw [wl2] | rw [wl3] | rw [wl4] | rw [wl5]); conv => whnf)
    | (refine SBool.mk (fun _ => ?_) (fun h => absurd (of_decide_eq_true rfl) h); conv => whnf)
    | (refine SBool.mk (fun h => absurd h (of_decide_eq_false rfl)) (fun _ => ?_); conv => whnf)
    | (refine SBool.mk (fun h => ?_) (fun h => ?_) <;> conv => whnf)
    | (refine SEx.mk _ (by first | exact plus_fit s.l s.h 1000000 (by decide) hs.l hs.h | exact against_pure s (s.l.add s.h) hs.c ((hs.l.add hs.h).mono (by decide))) ?_; conv => whnf)
    | (refine SEx.mk _ (by first | exact rfl | exact ⟨of_decide_eq_true rfl, rfl⟩) ?_; conv => whnf)
    | (refine SAll.mk (fun _ => ?_); conv => whnf)
    | (refine SAnd.mk ⟨by intro c hc; simp at hc; first | (subst hc; rfl) | ((repeat' (rcases hc with rfl | hc)) <;> first | rfl | (subst hc; rfl)), by (simp; first | done | omega), by (simp; first | done | omega)⟩ ?_; conv => whnf)
    | (refine SAnd.mk (by first | exact rfl | kernel_rfl | omega | decide | exact plus_fit s.l s.h 1000000 (by decide) hs.l hs.h | exact against_pure s (s.l.add s.h) hs.c ((hs.l.add hs.h).mono (by decide))) ?_; conv => whnf)
    | fail)
  all_goals exact ⟨PLe.refl _⟩
def sq (a : G) : Int := a.re * a.re + a.im * a.im
theorem sq_bound {n : Int} {m : Nat} (h : n.natAbs ≤ m) : (n * n).natAbs ≤ m * m := by
  rw [Int.natAbs_mul]
  exact Nat.mul_le_mul h h
theorem square_fit (a : G) (ha : a.Fit 1000000) : APure C 88 [.agg (gc a)] (I (sq a)) := by
  have e1 := sq_bound ha.re; have e2 := sq_bound ha.im
  have := square_pure a.re a.im
  rw [w64 (n := a.re * a.re) (by omega), w64 (n := a.im * a.im) (by omega), w64 (by omega)] at this
  exact this
end Go.Proofs.Ab.Tone
end
section
/- Ratios in lowest terms. -/
set_option maxRecDepth 100000
set_option linter.unusedVariables false
set_option linter.unusedSimpArgs false
namespace Go.Proofs.Ab.Tone
open Go Go.RowKit Go.Proofs.Ab
/-- Lowest terms. -/
structure R where
  num : Int
  den : Int
  deriving DecidableEq
abbrev rc (r : R) : List PV := [I r.num, I r.den]
def low (n d : Int) : R := ⟨n / (Int.gcd n d : Int), d / (Int.gcd n d : Int)⟩
theorem tdiv_exact {n g : Int} (h : g ∣ n) : n.tdiv g = n / g := by
  obtain ⟨k, rfl⟩ := h
  by_cases hg : g = 0
  · subst hg; simp
  · rw [Int.mul_tdiv_cancel_left _ hg, Int.mul_ediv_cancel_left _ hg]
theorem gcd_step (a b : Int) : Int.gcd b (a.tmod b) = Int.gcd a b := by
  unfold Int.gcd
  rw [Int.natAbs_tmod, Nat.gcd_comm a.natAbs, Nat.gcd_rec b.natAbs a.natAbs, Nat.gcd_comm]
theorem natAbs_tdiv_le (n g : Int) : (n.tdiv g).natAbs ≤ n.natAbs := by
  rw [Int.natAbs_tdiv]; exact Nat.div_le_self _ _
theorem lowest_pure (num den : Int) (hn : num.natAbs ≤ 4000000000000000000) (hd : 0 < den) (hd2 : den ≤ 4000000000000000000) : APure C 86 [I num, I den] (.agg (rc (low num den))) := by
  refine APure.of_body good [] (fn := Tryz.f86) (by kernel_rfl) (by kernel_rfl) rfl rfl (by kernel_rfl) rfl (by kernel_rfl) ?_
  conv => whnf
  refine ⟨AWp.loop (ι := { p : Int × Int // 0 ≤ p.1 ∧ 0 ≤ p.2 ∧ p.1 ≤ 4000000000000000000 ∧ p.2 ≤ 4000000000000000000 ∧ Int.gcd p.1 p.2 = Int.gcd num den })
    (fun p => ⟨[(6, .p (I p.1.2)), (5, .p (I p.1.1)), (4, .box 0 0), (0, .p (I num)), (1, .p (I den))], [(0, (28, [I 0, I 0]))], [], 1, [], [], []⟩) (fun p => p.1.2.toNat) ⟨(max num (wrap64 (0 - num)), den), ?_⟩ ?_ ?_⟩
  · rw [w64 (n := 0 - num) (by omega)]
    refine ⟨by simp only; omega, by simp only; omega, by simp only; omega, by simp only; omega, ?_⟩
    have e : max num (0 - num) = (num.natAbs : Int) := by omega
    simp only
    rw [e]
    unfold Int.gcd
    simp
  · refine SLe.of [(0, 0)] [] rfl rfl ?_
    conv => whnf
    repeat' (first
    | exact True.intro
    | (refine SAnd.mk (PLe.of_eq (by simp only [wrapK]; rw [wrap_id (by first | omega | (simp only; done) | (simp only; omega) | simp) (by first | omega | (simp only; done) | (simp only; omega) | simp)]; simp)) ?_; conv => whnf)
    | (refine SAnd.mk (PLe.refl _) ?_; conv => whnf)
    | (refine SAnd.mk (PLeL.refl _) ?_; conv => whnf)
    | (refine SAnd.mk (PLe.of_eq (by simp)) ?_; conv => whnf)
    | (refine SAnd.mk rfl ?_; conv => whnf)
    | (refine SAnd.mk ⟨rfl, rfl⟩ ?_; conv => whnf)
    | (refine SAnd.mk ⟨rfl, rfl, rfl⟩ ?_; conv => whnf))
  · rintro ⟨⟨a, b⟩, ha, hb, ham, hbm, hg⟩
    refine codeK_sound good (mu := []) ?_
    conv => whnf
    refine SBool.mk (fun h => ?_) (fun h => ?_)
    · conv => whnf
      have h0 : b = 0 := h
      simp only at ha hg
      have hga : (Int.gcd num den : Int) = a := by
        rw [← hg, h0]
        unfold Int.gcd
        simp
        omega
      have hpos : 0 < (Int.gcd num den : Int) := by
        have := Int.gcd_pos_of_ne_zero_right num (b := den) (by omega)
        omega
      have d1 : a ∣ num := hga ▸ Int.gcd_dvd_left ..
      have d2 : a ∣ den := hga ▸ Int.gcd_dvd_right ..
      have b1 := natAbs_tdiv_le num a
      have b2 := natAbs_tdiv_le den a
      refine SAnd.mk (by kernel_rfl) ?_
      conv => whnf
      refine SAnd.mk (by show a ≠ 0; omega) ?_
      conv => whnf
      refine SAnd.mk (by show a ≠ 0; omega) ?_
      conv => whnf
      refine ⟨PLe.of_eq ?_⟩
      show PV.agg [I (wrap64 (num.tdiv a)), I (wrap64 (den.tdiv a))] = _
      rw [w64 (by omega), w64 (by omega), tdiv_exact d1, tdiv_exact d2]
      unfold low
      rw [hga]
    · conv => whnf
      have h0 : ¬ b = 0 := h
      refine SAnd.mk (by kernel_rfl) ?_
      conv => whnf
      refine SAnd.mk h0 ?_
      conv => whnf
      simp only at ha hb ham hbm hg
      have e : a.tmod b = a % b := Int.tmod_eq_emod_of_nonneg ha
      have l1 := Int.emod_nonneg a h0
      have l2 := Int.emod_lt_of_pos a (by omega : 0 < b)
      refine ⟨⟨(b, a.tmod b), hb, by rw [e]; exact l1, hbm, by rw [e]; omega, by rw [← hg]; exact gcd_step a b⟩, by simp only; omega, ?_⟩
      · refine SLe.of [(0, 0)] [] rfl rfl ?_
        conv => whnf
        repeat' (first
        | exact True.intro
        | (refine SAnd.mk (PLe.of_eq (by simp only [wrapK]; rw [wrap_id (by first | omega | (simp only; done) | (simp only; omega) | simp) (by first | omega | (simp only; done) | (simp only; omega) | simp)]; simp)) ?_; conv => whnf)
        | (refine SAnd.mk (PLe.refl _) ?_; conv => whnf)
        | (refine SAnd.mk (PLeL.refl _) ?_; conv => whnf)
        | (refine SAnd.mk (PLe.of_eq (by simp)) ?_; conv => whnf)
        | (refine SAnd.mk rfl ?_; conv => whnf)
        | (refine SAnd.mk ⟨rfl, rfl⟩ ?_; conv => whnf)
        | (refine SAnd.mk ⟨rfl, rfl, rfl⟩ ?_; conv => whnf))
end Go.Proofs.Ab.Tone
end
section
/- Needles, sums; sums of signals, turns, factors. -/
set_option maxRecDepth 100000
set_option linter.unusedVariables false
set_option linter.unusedSimpArgs false
namespace Go.Proofs.Ab.Tone
open Go Go.RowKit Go.Proofs.Ab
theorem firstOf_zero {x : Int} {xs : List Int} : firstOf (x :: xs) = 0 ↔ x = 0 ∧ firstOf xs = 0 := by
  show (if x = 0 then firstOf xs else x) = 0 ↔ _
  split
  · rename_i h; simp [h]
  · rename_i h; simp [h]
theorem partE_zero {a b m : Int} (hm : 0 ≤ m) (hm2 : m ≤ 1000000000000) : partE a b m = 0 ↔ a.natAbs ≤ m.toNat ∧ b.natAbs ≤ m.toNat := by
  unfold partE
  rw [w64 (n := 0 - m) (by omega), firstOf_zero, firstOf_zero]
  unfold within firstOf
  constructor
  · rintro ⟨h1, h2, _⟩
    split at h1
    · simp at h1
    · split at h2
      · simp at h2
      · omega
  · rintro ⟨h1, h2⟩
    rw [if_neg (by omega), if_neg (by omega)]
    exact ⟨rfl, rfl, rfl⟩
theorem offE_zero {a : G} {bad : Int} (hb : bad ≠ 0) : offE a bad = 0 ↔ a.Fit 10000 := by
  unfold offE
  constructor
  · intro h
    split at h
    · rename_i h1
      have := (partE_zero (by decide) (by decide)).1 h1
      exact ⟨this.1, this.2⟩
    · exact absurd h hb
  · intro h
    rw [if_pos ((partE_zero (by decide) (by decide)).2 ⟨h.re, h.im⟩)]
theorem insideE_zero {s : Sg} {bad : Int} (hb : bad ≠ 0) : insideE s bad = 0 ↔ s.Fit 10000 := by
  unfold insideE
  rw [firstOf_zero, firstOf_zero, firstOf_zero, offE_zero hb, offE_zero hb, offE_zero hb]
  exact ⟨fun ⟨h1, h2, h3, _⟩ => ⟨h1, h2, h3⟩, fun h => ⟨h.c, h.l, h.h, rfl⟩⟩
/-- A valid signal. -/
structure Ok (s : Sg) : Prop where
  fit : s.Fit 10000
  nz : ¬ (s.c.re = 0 ∧ s.c.im = 0)
theorem zeroE_zero {a : G} : zeroE a = 0 ↔ ¬ (a.re = 0 ∧ a.im = 0) := by
  unfold zeroE
  split
  · rename_i h; simp [h]
  · rename_i h; exact ⟨fun _ => h, fun _ => rfl⟩
theorem checkE_zero {s : Sg} : checkE s = 0 ↔ Ok s := by
  unfold checkE
  rw [firstOf_zero, firstOf_zero, insideE_zero (by decide), zeroE_zero]
  exact ⟨fun ⟨h1, h2, _⟩ => ⟨h1, h2⟩, fun h => ⟨h.fit, h.nz, rfl⟩⟩
theorem Sg.Fit.mono {s : Sg} {m n : Nat} (h : s.Fit m) (hm : m ≤ n) : s.Fit n := ⟨h.c.mono hm, h.l.mono hm, h.h.mono hm⟩
theorem sq_nonneg (a : Int) : 0 ≤ a * a := by
  rcases Int.le_total 0 a with h | h
  · exact Int.mul_nonneg h h
  · exact Int.mul_nonneg_of_nonpos_of_nonpos h h
theorem sq_pos {a : Int} (h : a ≠ 0) : 0 < a * a := by
  have := sq_nonneg a
  have : a * a ≠ 0 := fun e => by rcases Int.mul_eq_zero.1 e with e | e <;> exact h e
  omega
theorem sq_le {a : G} (h : a.Fit 10000) : sq a ≤ 200000000 := by
  have e1 := sq_bound h.re; have e2 := sq_bound h.im
  unfold sq
  omega
theorem Ok.sq_pos {s : Sg} (h : Ok s) : 0 < sq s.c := by
  have := h.nz
  unfold sq
  have e1 := sq_nonneg s.c.re; have e2 := sq_nonneg s.c.im
  by_cases h1 : s.c.re = 0
  · have := Tone.sq_pos (a := s.c.im) (fun e => this ⟨h1, e⟩)
    omega
  · have := Tone.sq_pos h1
    omega
theorem aga_bound {s : Sg} {a : G} {m n : Nat} (hs : s.c.Fit m) (ha : a.Fit n) : (aga s a).natAbs ≤ 2 * (n * m) := by
  have e1 : (a.re * s.c.re).natAbs ≤ n * m := by rw [Int.natAbs_mul]; exact Nat.mul_le_mul ha.re hs.re
  have e2 : (a.im * s.c.im).natAbs ≤ n * m := by rw [Int.natAbs_mul]; exact Nat.mul_le_mul ha.im hs.im
  unfold aga
  omega
theorem dif_bound {s : Sg} (h : s.Fit 10000) : (dif s).natAbs ≤ 400000000 := aga_bound h.c (h.l.sub h.h)
theorem tot_bound {s : Sg} (h : s.Fit 10000) : (tot s).natAbs ≤ 400000000 := aga_bound h.c (h.l.add h.h)
theorem needle_pure (s : Sg) (h : Ok s) : APure C 89 [.agg (sc s)] (.agg (rc (low (dif s) (sq s.c)))) := by
  have hf := h.fit.mono (n := 1000000) (by decide)
  have b1 := dif_bound h.fit; have b2 := sq_le h.fit.c
  refine APure.of_body good [] (fn := Tryz.f89) (by kernel_rfl) (by kernel_rfl) rfl rfl (by kernel_rfl) rfl (by kernel_rfl) ?_
  conv => whnf
  repeat' (first
    | (refine codeK_sound good (mu := []) ?_; conv => whnf)
    | ((first | rw [wl0] | rw [wl1] | rw [wl2] | rw [wl3] | rw [wl4] | rw [wl5]); conv => whnf)
    | (refine SBool.mk (fun _ => ?_) (fun h => absurd (of_decide_eq_true rfl) h); conv => whnf)
    | (refine SBool.mk (fun h => absurd h (of_decide_eq_false rfl)) (fun _ => ?_); conv => whnf)
    | (refine SBool.mk (fun h => ?_) (fun h => ?_) <;> conv => whnf)
    | (refine SEx.mk _ (by first | exact difference_pure s hf | exact square_fit s.c hf.c | exact lowest_pure _ _ (by omega) h.sq_pos (by omega)) ?_; conv => whnf)
    | (refine SEx.mk _ (by first | exact rfl | exact ⟨of_decide_eq_true rfl, rfl⟩) ?_; conv => whnf)
    | (refine SAll.mk (fun _ => ?_); conv => whnf)
    | (refine SAnd.mk ⟨by intro c hc; simp at hc; first | (subst hc; rfl) | ((repeat' (rcases hc with rfl | hc)) <;> first | rfl | (subst hc; rfl)), by (simp; first | done | omega), by (simp; first | done | omega)⟩ ?_; conv => whnf)
    | (refine SAnd.mk (by first | exact rfl | kernel_rfl | omega | decide | exact difference_pure s hf | exact square_fit s.c hf.c | exact lowest_pure _ _ (by omega) h.sq_pos (by omega)) ?_; conv => whnf)
    | fail)
  all_goals exact ⟨PLe.refl _⟩
def R0 : R := ⟨0, 0⟩
def G0 : G := ⟨0, 0⟩
def S0 : Sg := ⟨G0, G0, G0⟩
def needleR (s : Sg) : R := if checkE s = 0 then low (dif s) (sq s.c) else R0
def sumR (s : Sg) : R := if checkE s = 0 then low (tot s) (sq s.c) else R0
theorem Needle_pure (s : Sg) : APure C 16 [.agg (sc s)] (.tup [.agg (rc (needleR s)), I (checkE s)]) := by
  refine APure.of_body good [] (fn := Tryz.f16) (by kernel_rfl) (by kernel_rfl) rfl rfl (by kernel_rfl) rfl (by kernel_rfl) ?_
  conv => whnf
  repeat' (first
    | (refine codeK_sound good (mu := []) ?_; conv => whnf)
    | ((first | rw [wl0] | rw [wl1] | rw [wl2] | rw [wl3] | rw [wl4] | rw [wl5]); conv => whnf)
    | (refine SBool.mk (fun _ => ?_) (fun h => absurd (of_decide_eq_true rfl) h); conv => whnf)
    | (refine SBool.mk (fun h => absurd h (of_decide_eq_false rfl)) (fun _ => ?_); conv => whnf)
    | (refine SBool.mk (fun h => ?_) (fun h => ?_) <;> conv => whnf)
    | (refine SEx.mk _ (by first | exact CheckSignal_pure s | exact needle_pure s (checkE_zero.1 (by assumption))) ?_; conv => whnf)
    | (refine SEx.mk _ (by first | exact rfl | exact ⟨of_decide_eq_true rfl, rfl⟩) ?_; conv => whnf)
    | (refine SAll.mk (fun _ => ?_); conv => whnf)
    | (refine SAnd.mk ⟨by intro c hc; simp at hc; first | (subst hc; rfl) | ((repeat' (rcases hc with rfl | hc)) <;> first | rfl | (subst hc; rfl)), by (simp; first | done | omega), by (simp; first | done | omega)⟩ ?_; conv => whnf)
    | (refine SAnd.mk (by first | exact rfl | kernel_rfl | omega | decide | exact CheckSignal_pure s | exact needle_pure s (checkE_zero.1 (by assumption))) ?_; conv => whnf)
    | fail)
  · exact ⟨PLe.of_eq (by unfold needleR; rw [if_pos h, h])⟩
  · exact ⟨PLe.of_eq (by unfold needleR; rw [if_neg h]; rfl)⟩
theorem Sum_pure (s : Sg) : APure C 17 [.agg (sc s)] (.tup [.agg (rc (sumR s)), I (checkE s)]) := by
  refine APure.of_body good [] (fn := Tryz.f17) (by kernel_rfl) (by kernel_rfl) rfl rfl (by kernel_rfl) rfl (by kernel_rfl) ?_
  conv => whnf
  repeat' (first
    | (refine codeK_sound good (mu := []) ?_; conv => whnf)
    | ((first | rw [wl0] | rw [wl1] | rw [wl2] | rw [wl3] | rw [wl4] | rw [wl5]); conv => whnf)
    | (refine SBool.mk (fun _ => ?_) (fun h => absurd (of_decide_eq_true rfl) h); conv => whnf)
    | (refine SBool.mk (fun h => absurd h (of_decide_eq_false rfl)) (fun _ => ?_); conv => whnf)
    | (refine SBool.mk (fun h => ?_) (fun h => ?_) <;> conv => whnf)
    | (refine SEx.mk _ (by first | exact CheckSignal_pure s) ?_; conv => whnf)
    | (refine SEx.mk _ (by first | exact rfl | exact ⟨of_decide_eq_true rfl, rfl⟩) ?_; conv => whnf)
    | (refine SAll.mk (fun _ => ?_); conv => whnf)
    | (refine SAnd.mk ⟨by intro c hc; simp at hc; first | (subst hc; rfl) | ((repeat' (rcases hc with rfl | hc)) <;> first | rfl | (subst hc; rfl)), by (simp; first | done | omega), by (simp; first | done | omega)⟩ ?_; conv => whnf)
    | (refine SAnd.mk (by first | exact rfl | kernel_rfl | omega | decide | exact CheckSignal_pure s) ?_; conv => whnf)
    | fail)
  · have hv := checkE_zero.1 h
    have hf := hv.fit.mono (n := 1000000) (by decide)
    have b1 := tot_bound hv.fit; have b2 := sq_le hv.fit.c
    conv => whnf
    repeat' (first
      | (refine codeK_sound good (mu := []) ?_; conv => whnf)
      | ((first | rw [wl0] | rw [wl1] | rw [wl2] | rw [wl3] | rw [wl4] | rw [wl5]); conv => whnf)
      | (refine SBool.mk (fun _ => ?_) (fun h => absurd (of_decide_eq_true rfl) h); conv => whnf)
      | (refine SBool.mk (fun h => absurd h (of_decide_eq_false rfl)) (fun _ => ?_); conv => whnf)
      | (refine SBool.mk (fun h => ?_) (fun h => ?_) <;> conv => whnf)
      | (refine SEx.mk _ (by first | exact sum_pure s hf | exact square_fit s.c hf.c | exact lowest_pure _ _ (by omega) hv.sq_pos (by omega)) ?_; conv => whnf)
      | (refine SEx.mk _ (by first | exact rfl | exact ⟨of_decide_eq_true rfl, rfl⟩) ?_; conv => whnf)
      | (refine SAll.mk (fun _ => ?_); conv => whnf)
      | (refine SAnd.mk ⟨by intro c hc; simp at hc; first | (subst hc; rfl) | ((repeat' (rcases hc with rfl | hc)) <;> first | rfl | (subst hc; rfl)), by (simp; first | done | omega), by (simp; first | done | omega)⟩ ?_; conv => whnf)
      | (refine SAnd.mk (by first | exact rfl | kernel_rfl | omega | decide | exact sum_pure s hf | exact square_fit s.c hf.c | exact lowest_pure _ _ (by omega) hv.sq_pos (by omega)) ?_; conv => whnf)
      | fail)
    exact ⟨PLe.of_eq (by unfold sumR; rw [if_pos h, h])⟩
  · exact ⟨PLe.of_eq (by unfold sumR; rw [if_neg h]; rfl)⟩
def madeE (s : Sg) : Int := firstOf [insideE s 4, zeroE s.c]
theorem madeE_zero {s : Sg} : madeE s = 0 ↔ Ok s := by
  unfold madeE
  rw [firstOf_zero, firstOf_zero, insideE_zero (by decide), zeroE_zero]
  exact ⟨fun ⟨h1, h2, _⟩ => ⟨h1, h2⟩, fun h => ⟨h.fit, h.nz, rfl⟩⟩
def madeS (s : Sg) : Sg := if madeE s = 0 then s else S0
theorem when_zero (a : G) (h : decide (a.re = 0 ∧ a.im = 0) = true) : APure C 100 [Bo true, I 6] (I (zeroE a)) := by
  have := when_pure true 6
  rw [decide_eq_true_eq] at h
  unfold zeroE
  rw [if_pos h]
  exact this
theorem when_nz (a : G) (h : ¬ decide (a.re = 0 ∧ a.im = 0) = true) : APure C 100 [Bo false, I 6] (I (zeroE a)) := by
  have := when_pure false 6
  rw [decide_eq_true_eq] at h
  unfold zeroE
  rw [if_neg h]
  exact this
theorem made_pure (s : Sg) : APure C 101 [.agg (sc s)] (.tup [.agg (sc (madeS s)), I (madeE s)]) := by
  refine APure.of_body good [] (fn := Tryz.f101) (by kernel_rfl) (by kernel_rfl) rfl rfl (by kernel_rfl) rfl (by kernel_rfl) ?_
  conv => whnf
  repeat' (first
    | (refine codeK_sound good (mu := []) ?_; conv => whnf)
    | ((first | rw [wl0] | rw [wl1] | rw [wl2] | rw [wl3] | rw [wl4] | rw [wl5]); conv => whnf)
    | (refine SBool.mk (fun _ => ?_) (fun h => absurd (of_decide_eq_true rfl) h); conv => whnf)
    | (refine SBool.mk (fun h => absurd h (of_decide_eq_false rfl)) (fun _ => ?_); conv => whnf)
    | (refine SBool.mk (fun h => ?_) (fun h => ?_) <;> conv => whnf)
    | (refine SEx.mk _ (by first | exact inside_pure s 4 | exact eq_gauss _ _ _ _ | exact when_zero s.c (by assumption) | exact when_nz s.c (by assumption) | exact first2_pure _ _) ?_; conv => whnf)
    | (refine SEx.mk _ (by first | exact rfl | exact ⟨of_decide_eq_true rfl, rfl⟩) ?_; conv => whnf)
    | (refine SAll.mk (fun _ => ?_); conv => whnf)
    | (refine SAnd.mk ⟨by intro c hc; simp at hc; first | (subst hc; rfl) | ((repeat' (rcases hc with rfl | hc)) <;> first | rfl | (subst hc; rfl)), by (simp; first | done | omega), by (simp; first | done | omega)⟩ ?_; conv => whnf)
    | (refine SAnd.mk (by first | exact rfl | kernel_rfl | omega | decide | exact inside_pure s 4 | exact eq_gauss _ _ _ _ | exact when_zero s.c (by assumption) | exact when_nz s.c (by assumption) | exact first2_pure _ _) ?_; conv => whnf)
    | fail)
  all_goals first
    | (have h0 : madeE s = 0 := by assumption); exact ⟨PLe.of_eq (by unfold madeS; rw [if_pos h0, h0])⟩
    | (have h0 : ¬ madeE s = 0 := by assumption); exact ⟨PLe.of_eq (by unfold madeS; rw [if_neg h0]; rfl)⟩
def Sg.add (a b : Sg) : Sg := ⟨a.c.add b.c, a.l.add b.l, a.h.add b.h⟩
def addedE (a b : Sg) : Int := if firstOf [checkE a, checkE b] = 0 then madeE (a.add b) else firstOf [checkE a, checkE b]
def addedS (a b : Sg) : Sg := if firstOf [checkE a, checkE b] = 0 then madeS (a.add b) else S0
theorem Added_pure (a b : Sg) : APure C 26 [.agg (sc a), .agg (sc b)] (.tup [.agg (sc (addedS a b)), I (addedE a b)]) := by
  refine APure.of_body good [] (fn := Tryz.f26) (by kernel_rfl) (by kernel_rfl) rfl rfl (by kernel_rfl) rfl (by kernel_rfl) ?_
  conv => whnf
  repeat' (first
    | (refine codeK_sound good (mu := []) ?_; conv => whnf)
    | ((first | rw [wl0] | rw [wl1] | rw [wl2] | rw [wl3] | rw [wl4] | rw [wl5]); conv => whnf)
    | (refine SBool.mk (fun _ => ?_) (fun h => absurd (of_decide_eq_true rfl) h); conv => whnf)
    | (refine SBool.mk (fun h => absurd h (of_decide_eq_false rfl)) (fun _ => ?_); conv => whnf)
    | (refine SBool.mk (fun h => ?_) (fun h => ?_) <;> conv => whnf)
    | (refine SEx.mk _ (by first | exact CheckSignal_pure _ | exact first2_pure _ _) ?_; conv => whnf)
    | (refine SEx.mk _ (by first | exact rfl | exact ⟨of_decide_eq_true rfl, rfl⟩) ?_; conv => whnf)
    | (refine SAll.mk (fun _ => ?_); conv => whnf)
    | (refine SAnd.mk ⟨by intro c hc; simp at hc; first | (subst hc; rfl) | ((repeat' (rcases hc with rfl | hc)) <;> first | rfl | (subst hc; rfl)), by (simp; first | done | omega), by (simp; first | done | omega)⟩ ?_; conv => whnf)
    | (refine SAnd.mk (by first | exact rfl | kernel_rfl | omega | decide | exact CheckSignal_pure _ | exact first2_pure _ _) ?_; conv => whnf)
    | fail)
  · have h' := h
    rw [firstOf_zero, firstOf_zero] at h'
    have ha := (checkE_zero.1 h'.1).fit
    have hb := (checkE_zero.1 h'.2.1).fit
    conv => whnf
    repeat' (first
      | (refine codeK_sound good (mu := []) ?_; conv => whnf)
      | ((first | rw [wl0] | rw [wl1] | rw [wl2] | rw [wl3] | rw [wl4] | rw [wl5]); conv => whnf)
      | (refine SBool.mk (fun _ => ?_) (fun h => absurd (of_decide_eq_true rfl) h); conv => whnf)
      | (refine SBool.mk (fun h => absurd h (of_decide_eq_false rfl)) (fun _ => ?_); conv => whnf)
      | (refine SBool.mk (fun h => ?_) (fun h => ?_) <;> conv => whnf)
      | (refine SEx.mk _ (by first | exact plus_fit a.c b.c 10000 (by decide) ha.c hb.c | exact plus_fit a.l b.l 10000 (by decide) ha.l hb.l | exact plus_fit a.h b.h 10000 (by decide) ha.h hb.h | exact made_pure (a.add b)) ?_; conv => whnf)
      | (refine SEx.mk _ (by first | exact rfl | exact ⟨of_decide_eq_true rfl, rfl⟩) ?_; conv => whnf)
      | (refine SAll.mk (fun _ => ?_); conv => whnf)
      | (refine SAnd.mk ⟨by intro c hc; simp at hc; first | (subst hc; rfl) | ((repeat' (rcases hc with rfl | hc)) <;> first | rfl | (subst hc; rfl)), by (simp; first | done | omega), by (simp; first | done | omega)⟩ ?_; conv => whnf)
      | (refine SAnd.mk (by first | exact rfl | kernel_rfl | omega | decide | exact plus_fit a.c b.c 10000 (by decide) ha.c hb.c | exact plus_fit a.l b.l 10000 (by decide) ha.l hb.l | exact plus_fit a.h b.h 10000 (by decide) ha.h hb.h | exact made_pure (a.add b)) ?_; conv => whnf)
      | fail)
    exact ⟨PLe.of_eq (by unfold addedS addedE; rw [if_pos h, if_pos h])⟩
  · exact ⟨PLe.of_eq (by unfold addedS addedE; rw [if_neg h, if_neg h]; rfl)⟩
/-- The product of two complex integers. -/
def G.mul (a b : G) : G := ⟨a.re * b.re - a.im * b.im, a.re * b.im + a.im * b.re⟩
theorem times_fit (a b : G) (ha : a.Fit 4000000) (hb : b.Fit 1000000) : APure C 105 [.agg (gc a), .agg (gc b)] (.agg (gc (a.mul b))) := times_pure a.re a.im b.re b.im ha.re ha.im hb.re hb.im
theorem scaled11_pure (f a : G) (hf : f.Fit 1000000) (ha : a.Fit 4000000) : APure C 109 [.agg (gc a), .ref (gc f)] (.agg (gc (a.mul f))) := by
  refine APure.of_body good [] (fn := Tryz.f109) (by kernel_rfl) (by kernel_rfl) rfl rfl (by kernel_rfl) rfl (by kernel_rfl) ?_
  conv => whnf
  repeat' (first
    | (refine codeK_sound good (mu := []) ?_; conv => whnf)
    | ((first | rw [wl0] | rw [wl1] | rw [wl2] | rw [wl3] | rw [wl4] | rw [wl5]); conv => whnf)
    | (refine SBool.mk (fun _ => ?_) (fun h => absurd (of_decide_eq_true rfl) h); conv => whnf)
    | (refine SBool.mk (fun h => absurd h (of_decide_eq_false rfl)) (fun _ => ?_); conv => whnf)
    | (refine SBool.mk (fun h => ?_) (fun h => ?_) <;> conv => whnf)
    | (refine SEx.mk _ (by first | exact times_fit a f ha hf) ?_; conv => whnf)
    | (refine SEx.mk _ (by first | exact rfl | exact ⟨of_decide_eq_true rfl, rfl⟩) ?_; conv => whnf)
    | (refine SAll.mk (fun _ => ?_); conv => whnf)
    | (refine SAnd.mk ⟨by intro c hc; simp at hc; first | (subst hc; rfl) | ((repeat' (rcases hc with rfl | hc)) <;> first | rfl | (subst hc; rfl)), by (simp; first | done | omega), by (simp; first | done | omega)⟩ ?_; conv => whnf)
    | (refine SAnd.mk (by first | exact rfl | kernel_rfl | omega | decide | exact times_fit a f ha hf) ?_; conv => whnf)
    | fail)
  exact ⟨PLe.refl _⟩
theorem scaled1_pure (f : G) : APure C 108 [.agg (gc f)] (.fn 109 [.ref (gc f)]) := by
  refine APure.of_body good [] (fn := Tryz.f108) (by kernel_rfl) (by kernel_rfl) rfl rfl (by kernel_rfl) rfl (by kernel_rfl) ?_
  conv => whnf
  repeat' (first
    | (refine codeK_sound good (mu := []) ?_; conv => whnf)
    | ((first | rw [wl0] | rw [wl1] | rw [wl2] | rw [wl3] | rw [wl4] | rw [wl5]); conv => whnf)
    | (refine SBool.mk (fun _ => ?_) (fun h => absurd (of_decide_eq_true rfl) h); conv => whnf)
    | (refine SBool.mk (fun h => absurd h (of_decide_eq_false rfl)) (fun _ => ?_); conv => whnf)
    | (refine SBool.mk (fun h => ?_) (fun h => ?_) <;> conv => whnf)
    | (refine SEx.mk _ (by first | exact rfl | exact ⟨of_decide_eq_true rfl, rfl⟩) ?_; conv => whnf)
    | (refine SAll.mk (fun _ => ?_); conv => whnf)
    | (refine SAnd.mk ⟨by intro c hc; simp at hc; first | (subst hc; rfl) | ((repeat' (rcases hc with rfl | hc)) <;> first | rfl | (subst hc; rfl)), by (simp; first | done | omega), by (simp; first | done | omega)⟩ ?_; conv => whnf)
    | (refine SAnd.mk (by first | exact rfl | kernel_rfl | omega | decide) ?_; conv => whnf)
    | fail)
  exact ⟨PLe.refl _⟩
theorem each_pure (s : Sg) (f g : FuncId) (cf cg : List PV) (c l h : G) (h1 : APure C f (.agg (gc s.c) :: cf) (.agg (gc c))) (h2 : APure C g (.agg (gc s.l) :: cg) (.agg (gc l))) (h3 : APure C g (.agg (gc s.h) :: cg) (.agg (gc h))) :
    APure C 106 [.agg (sc s), .fn f cf, .fn g cg] (.agg (sc ⟨c, l, h⟩)) := by
  refine APure.of_body good [] (fn := Tryz.f106) (by kernel_rfl) (by kernel_rfl) rfl rfl (by kernel_rfl) rfl (by kernel_rfl) ?_
  conv => whnf
  repeat' (first
    | (refine codeK_sound good (mu := []) ?_; conv => whnf)
    | ((first | rw [wl0] | rw [wl1] | rw [wl2] | rw [wl3] | rw [wl4] | rw [wl5]); conv => whnf)
    | (refine SBool.mk (fun _ => ?_) (fun h => absurd (of_decide_eq_true rfl) h); conv => whnf)
    | (refine SBool.mk (fun h => absurd h (of_decide_eq_false rfl)) (fun _ => ?_); conv => whnf)
    | (refine SBool.mk (fun h => ?_) (fun h => ?_) <;> conv => whnf)
    | (refine SEx.mk _ (by first | exact h1 | exact h2 | exact h3) ?_; conv => whnf)
    | (refine SEx.mk _ (by first | exact rfl | exact ⟨of_decide_eq_true rfl, rfl⟩) ?_; conv => whnf)
    | (refine SAll.mk (fun _ => ?_); conv => whnf)
    | (refine SAnd.mk (by first | exact h1 | exact h2 | exact h3) ?_; conv => whnf)
    | (refine SAnd.mk ⟨by intro c hc; simp at hc; first | (subst hc; rfl) | ((repeat' (rcases hc with rfl | hc)) <;> first | rfl | (subst hc; rfl)), by (simp; first | done | omega), by (simp; first | done | omega)⟩ ?_; conv => whnf)
    | (refine SAnd.mk (by first | exact rfl | kernel_rfl | omega | decide | exact h1 | exact h2 | exact h3) ?_; conv => whnf)
    | fail)
  exact ⟨PLe.refl _⟩
def factE (s : Sg) (c d : G) : Int := firstOf [checkE s, partE c.re c.im 1000, zeroE c, partE d.re d.im 1000]
def Sg.by (s : Sg) (c d : G) : Sg := ⟨s.c.mul c, s.l.mul d, s.h.mul d⟩
def scaledE (s : Sg) (c d : G) : Int := if factE s c d = 0 then madeE (s.by c d) else factE s c d
def scaledS (s : Sg) (c d : G) : Sg := if factE s c d = 0 then madeS (s.by c d) else S0
theorem Scaled_pure (s : Sg) (c d : G) : APure C 28 [.agg (sc s), .agg (gc c), .agg (gc d)] (.tup [.agg (sc (scaledS s c d)), I (scaledE s c d)]) := by
  refine APure.of_body good [] (fn := Tryz.f28) (by kernel_rfl) (by kernel_rfl) rfl rfl (by kernel_rfl) rfl (by kernel_rfl) ?_
  conv => whnf
  repeat' (first
    | (refine codeK_sound good (mu := []) ?_; conv => whnf)
    | ((first | rw [wl0] | rw [wl1] | rw [wl2] | rw [wl3] | rw [wl4] | rw [wl5]); conv => whnf)
    | (refine SBool.mk (fun _ => ?_) (fun h => absurd (of_decide_eq_true rfl) h); conv => whnf)
    | (refine SBool.mk (fun h => absurd h (of_decide_eq_false rfl)) (fun _ => ?_); conv => whnf)
    | (refine SBool.mk (fun h => ?_) (fun h => ?_) <;> conv => whnf)
    | (refine SEx.mk _ (by first | exact CheckSignal_pure _ | exact part_pure _ _ _ | exact eq_gauss _ _ _ _ | exact when_zero c (by assumption) | exact when_nz c (by assumption) | exact first4_pure _ _ _ _ | exact scaled1_pure _) ?_; conv => whnf)
    | (refine SEx.mk _ (by first | exact rfl | exact ⟨of_decide_eq_true rfl, rfl⟩) ?_; conv => whnf)
    | (refine SAll.mk (fun _ => ?_); conv => whnf)
    | (refine SAnd.mk ⟨by intro c hc; simp at hc; first | (subst hc; rfl) | ((repeat' (rcases hc with rfl | hc)) <;> first | rfl | (subst hc; rfl)), by (simp; first | done | omega), by (simp; first | done | omega)⟩ ?_; conv => whnf)
    | (refine SAnd.mk (by first | exact rfl | kernel_rfl | omega | decide | exact CheckSignal_pure _ | exact part_pure _ _ _ | exact eq_gauss _ _ _ _ | exact when_zero c (by assumption) | exact when_nz c (by assumption) | exact first4_pure _ _ _ _ | exact scaled1_pure _) ?_; conv => whnf)
    | fail)
  all_goals rename_i h0
  all_goals first
    | have h' : ¬ factE s c d = 0 := by assumption
      exact ⟨PLe.of_eq (by unfold scaledS scaledE; rw [if_neg h', if_neg h']; rfl)⟩
    | have h1 : factE s c d = 0 := by assumption
      have h' := h1
      unfold factE at h'
      rw [firstOf_zero, firstOf_zero, firstOf_zero, firstOf_zero] at h'
      have hs := (checkE_zero.1 h'.1).fit
      have hc := (partE_zero (by decide) (by decide)).1 h'.2.1
      have hd := (partE_zero (by decide) (by decide)).1 h'.2.2.2.1
      have gc' : c.Fit 1000000 := ⟨Nat.le_trans hc.1 (by decide), Nat.le_trans hc.2 (by decide)⟩
      have gd' : d.Fit 1000000 := ⟨Nat.le_trans hd.1 (by decide), Nat.le_trans hd.2 (by decide)⟩
      conv => whnf
      repeat' (first
        | (refine codeK_sound good (mu := []) ?_; conv => whnf)
        | ((first | rw [wl0] | rw [wl1] | rw [wl2] | rw [wl3] | rw [wl4] | rw [wl5]); conv => whnf)
        | (refine SBool.mk (fun _ => ?_) (fun h => absurd (of_decide_eq_true rfl) h); conv => whnf)
        | (refine SBool.mk (fun h => absurd h (of_decide_eq_false rfl)) (fun _ => ?_); conv => whnf)
        | (refine SBool.mk (fun h => ?_) (fun h => ?_) <;> conv => whnf)
        | (refine SEx.mk _ (by first | exact each_pure s 109 109 _ _ _ _ _ (scaled11_pure c s.c gc' (hs.c.mono (by decide))) (scaled11_pure d s.l gd' (hs.l.mono (by decide))) (scaled11_pure d s.h gd' (hs.h.mono (by decide))) | exact made_pure (s.by c d)) ?_; conv => whnf)
        | (refine SEx.mk _ (by first | exact rfl | exact ⟨of_decide_eq_true rfl, rfl⟩) ?_; conv => whnf)
        | (refine SAll.mk (fun _ => ?_); conv => whnf)
        | (refine SAnd.mk ⟨by intro c hc; simp at hc; first | (subst hc; rfl) | ((repeat' (rcases hc with rfl | hc)) <;> first | rfl | (subst hc; rfl)), by (simp; first | done | omega), by (simp; first | done | omega)⟩ ?_; conv => whnf)
        | (refine SAnd.mk (by first | exact rfl | kernel_rfl | omega | decide | exact each_pure s 109 109 _ _ _ _ _ (scaled11_pure c s.c gc' (hs.c.mono (by decide))) (scaled11_pure d s.l gd' (hs.l.mono (by decide))) (scaled11_pure d s.h gd' (hs.h.mono (by decide))) | exact made_pure (s.by c d)) ?_; conv => whnf)
        | fail)
      exact ⟨PLe.of_eq (by unfold scaledS scaledE; rw [if_pos h1, if_pos h1])⟩
end Go.Proofs.Ab.Tone
end
section
/- Turns; depths. -/
set_option maxRecDepth 100000
set_option linter.unusedVariables false
set_option linter.unusedSimpArgs false
namespace Go.Proofs.Ab.Tone
open Go Go.RowKit Go.Proofs.Ab
def turnN (a : G) : Nat → G
  | 0 => a
  | n + 1 => (turnN a n).mul ⟨0, 1⟩
theorem turnN_fit {a : G} {m : Nat} (h : a.Fit m) : ∀ n, (turnN a n).Fit m
  | 0 => h
  | n + 1 => by
    have ih := turnN_fit h n
    have e1 := ih.re; have e2 := ih.im
    constructor <;> simp only [turnN, G.mul] <;> omega
theorem turned1_pure (k : Int) (a : G) (ha : a.Fit 4000000) (h0 : 0 ≤ k) (hk : k ≤ 3) : APure C 104 [.agg (gc a), .ref [I k]] (.agg (gc (turnN a k.toNat))) := by
  refine APure.of_body good [2] (fn := Tryz.f104) (by kernel_rfl) (by kernel_rfl) rfl rfl (by kernel_rfl) rfl (by kernel_rfl) ?_
  conv => whnf
  refine ⟨AWp.loop (ι := { j : Nat // j ≤ k.toNat }) (fun j => ⟨[(5, .p (I j.1)), (4, .p (I k)), (2, .box 0 0), (3, .box 1 0)], [(0, (23, gc (turnN a j.1))), (1, (23, [I 0, I 0]))], [], 2, [], [], []⟩) (fun j => k.toNat - j.1) ⟨0, by simp⟩ ?_ ?_⟩
  · refine SLe.of [(0, 0), (1, 1)] [] rfl rfl ?_
    conv => whnf
    repeat' (first
    | exact True.intro
    | (refine SAnd.mk (PLe.of_eq (by simp only [wrapK]; rw [wrap_id (by first | omega | (simp only; done) | (simp only; omega) | simp) (by first | omega | (simp only; done) | (simp only; omega) | simp)]; simp)) ?_; conv => whnf)
    | (refine SAnd.mk (PLe.refl _) ?_; conv => whnf)
    | (refine SAnd.mk (PLeL.refl _) ?_; conv => whnf)
    | (refine SAnd.mk (PLe.of_eq (by simp)) ?_; conv => whnf)
    | (refine SAnd.mk rfl ?_; conv => whnf)
    | (refine SAnd.mk ⟨rfl, rfl⟩ ?_; conv => whnf)
    | (refine SAnd.mk ⟨rfl, rfl, rfl⟩ ?_; conv => whnf))
  · rintro ⟨j, hj⟩
    conv => whnf
    repeat' (first
      | (refine codeK_sound good (mu := [2]) ?_; conv => whnf)
      | ((first | rw [wl0] | rw [wl1] | rw [wl2] | rw [wl3] | rw [wl4] | rw [wl5]); conv => whnf)
      | (refine SBool.mk (fun _ => ?_) (fun h => absurd (of_decide_eq_true rfl) h); conv => whnf)
      | (refine SBool.mk (fun h => absurd h (of_decide_eq_false rfl)) (fun _ => ?_); conv => whnf)
      | (refine SBool.mk (fun h => ?_) (fun h => ?_) <;> conv => whnf)
      | (refine SEx.mk _ (by first | exact times_fit (turnN a j) ⟨0, 1⟩ (turnN_fit ha j) ⟨by decide, by decide⟩) ?_; conv => whnf)
      | (refine SEx.mk _ (by first | exact rfl | exact ⟨of_decide_eq_true rfl, rfl⟩) ?_; conv => whnf)
      | (refine SAll.mk (fun _ => ?_); conv => whnf)
      | (refine SAnd.mk ⟨by intro c hc; simp at hc; first | (subst hc; rfl) | ((repeat' (rcases hc with rfl | hc)) <;> first | rfl | (subst hc; rfl)), by (simp; first | done | omega), by (simp; first | done | omega)⟩ ?_; conv => whnf)
      | (refine SAnd.mk (by first | exact rfl | kernel_rfl | omega | decide | exact times_fit (turnN a j) ⟨0, 1⟩ (turnN_fit ha j) ⟨by decide, by decide⟩) ?_; conv => whnf)
      | fail)
    · have hl : (j : Int) < k := h
      refine ⟨⟨j + 1, by omega⟩, by simp only; omega, ?_⟩
      refine SLe.of [(0, 0), (1, 1)] [] rfl rfl ?_
      conv => whnf
      refine SAnd.mk (PLe.of_eq (by simp only [wrapK]; rw [w64 (by omega)]; simp)) ?_
      conv => whnf
      repeat' (first
      | exact True.intro
      | (refine SAnd.mk (PLe.refl _) ?_; conv => whnf)
      | (refine SAnd.mk (PLeL.refl _) ?_; conv => whnf))
    · have hl : ¬ (j : Int) < k := h
      have : j = k.toNat := by omega
      subst this
      exact ⟨PLe.refl _⟩
def Sg.turn (s : Sg) (n : Nat) : Sg := ⟨turnN s.c n, turnN s.l n, turnN s.h n⟩
def turnE (s : Sg) (k : Int) : Int := firstOf [checkE s, within k 0 3]
def turnedS (s : Sg) (k : Int) : Sg := if turnE s k = 0 then s.turn k.toNat else S0
theorem within_zero {n a b : Int} : within n a b = 0 ↔ a ≤ n ∧ n ≤ b := by
  unfold within
  split
  · rename_i h; simp; omega
  · rename_i h; simp; omega
theorem Turned_pure (s : Sg) (k : Int) : APure C 27 [.agg (sc s), I k] (.tup [.agg (sc (turnedS s k)), I (turnE s k)]) := by
  refine APure.of_body good [] (fn := Tryz.f27) (by kernel_rfl) (by kernel_rfl) rfl rfl (by kernel_rfl) rfl (by kernel_rfl) ?_
  conv => whnf
  repeat' (first
    | (refine codeK_sound good (mu := []) ?_; conv => whnf)
    | ((first | rw [wl0] | rw [wl1] | rw [wl2] | rw [wl3] | rw [wl4] | rw [wl5]); conv => whnf)
    | (refine SBool.mk (fun _ => ?_) (fun h => absurd (of_decide_eq_true rfl) h); conv => whnf)
    | (refine SBool.mk (fun h => absurd h (of_decide_eq_false rfl)) (fun _ => ?_); conv => whnf)
    | (refine SBool.mk (fun h => ?_) (fun h => ?_) <;> conv => whnf)
    | (refine SEx.mk _ (by first | exact CheckSignal_pure _ | exact within_pure _ _ _ | exact first2_pure _ _) ?_; conv => whnf)
    | (refine SEx.mk _ (by first | exact rfl | exact ⟨of_decide_eq_true rfl, rfl⟩) ?_; conv => whnf)
    | (refine SAll.mk (fun _ => ?_); conv => whnf)
    | (refine SAnd.mk ⟨by intro c hc; simp at hc; first | (subst hc; rfl) | ((repeat' (rcases hc with rfl | hc)) <;> first | rfl | (subst hc; rfl)), by (simp; first | done | omega), by (simp; first | done | omega)⟩ ?_; conv => whnf)
    | (refine SAnd.mk (by first | exact rfl | kernel_rfl | omega | decide | exact CheckSignal_pure _ | exact within_pure _ _ _ | exact first2_pure _ _) ?_; conv => whnf)
    | fail)
  · have h1 : turnE s k = 0 := h
    have h' := h1
    unfold turnE at h'
    rw [firstOf_zero, firstOf_zero, within_zero] at h'
    have hs := (checkE_zero.1 h'.1).fit.mono (n := 4000000) (by decide)
    conv => whnf
    repeat' (first
      | (refine codeK_sound good (mu := []) ?_; conv => whnf)
      | ((first | rw [wl0] | rw [wl1] | rw [wl2] | rw [wl3] | rw [wl4] | rw [wl5]); conv => whnf)
      | (refine SBool.mk (fun _ => ?_) (fun h => absurd (of_decide_eq_true rfl) h); conv => whnf)
      | (refine SBool.mk (fun h => absurd h (of_decide_eq_false rfl)) (fun _ => ?_); conv => whnf)
      | (refine SBool.mk (fun h => ?_) (fun h => ?_) <;> conv => whnf)
      | (refine SEx.mk _ (by first | exact each_pure s 104 104 _ _ _ _ _ (turned1_pure k s.c hs.c h'.2.1.1 h'.2.1.2) (turned1_pure k s.l hs.l h'.2.1.1 h'.2.1.2) (turned1_pure k s.h hs.h h'.2.1.1 h'.2.1.2)) ?_; conv => whnf)
      | (refine SEx.mk _ (by first | exact rfl | exact ⟨of_decide_eq_true rfl, rfl⟩) ?_; conv => whnf)
      | (refine SAll.mk (fun _ => ?_); conv => whnf)
      | (refine SAnd.mk ⟨by intro c hc; simp at hc; first | (subst hc; rfl) | ((repeat' (rcases hc with rfl | hc)) <;> first | rfl | (subst hc; rfl)), by (simp; first | done | omega), by (simp; first | done | omega)⟩ ?_; conv => whnf)
      | (refine SAnd.mk (by first | exact rfl | kernel_rfl | omega | decide | exact each_pure s 104 104 _ _ _ _ _ (turned1_pure k s.c hs.c h'.2.1.1 h'.2.1.2) (turned1_pure k s.l hs.l h'.2.1.1 h'.2.1.2) (turned1_pure k s.h hs.h h'.2.1.1 h'.2.1.2)) ?_; conv => whnf)
      | fail)
    exact ⟨PLe.of_eq (by unfold turnedS; rw [if_pos h1, h1]; rfl)⟩
  · have h1 : ¬ turnE s k = 0 := h
    exact ⟨PLe.of_eq (by unfold turnedS; rw [if_neg h1]; rfl)⟩
abbrev tonesV : PV := .agg [.fn 155 [], I 1, I 1, I (-1), I (-1), .fn 156 [], I 1, I (-1), I 1, I (-1)]
theorem tones_pure : APure C 85 [] tonesV := by
  refine APure.of_body good [] (fn := Tryz.f85) (by kernel_rfl) (by kernel_rfl) rfl rfl (by kernel_rfl) rfl (by kernel_rfl) ?_
  conv => whnf
  repeat' (first
    | (refine codeK_sound good (mu := []) ?_; conv => whnf)
    | ((first | rw [wl0] | rw [wl1] | rw [wl2] | rw [wl3] | rw [wl4] | rw [wl5]); conv => whnf)
    | (refine SBool.mk (fun _ => ?_) (fun h => absurd (of_decide_eq_true rfl) h); conv => whnf)
    | (refine SBool.mk (fun h => absurd h (of_decide_eq_false rfl)) (fun _ => ?_); conv => whnf)
    | (refine SBool.mk (fun h => ?_) (fun h => ?_) <;> conv => whnf)
    | (refine SEx.mk _ (by first | exact rfl | exact ⟨of_decide_eq_true rfl, rfl⟩) ?_; conv => whnf)
    | (refine SAll.mk (fun _ => ?_); conv => whnf)
    | (refine SAnd.mk ⟨by intro c hc; simp at hc; first | (subst hc; rfl) | ((repeat' (rcases hc with rfl | hc)) <;> first | rfl | (subst hc; rfl)), by (simp; first | done | omega), by (simp; first | done | omega)⟩ ?_; conv => whnf)
    | (refine SAnd.mk (by first | exact rfl | kernel_rfl | omega | decide) ?_; conv => whnf)
    | fail)
  exact ⟨PLe.refl _⟩
theorem tones1_pure (s : Sg) : APure C 155 [.agg (sc s)] (.agg (gc s.l)) := by
  refine APure.of_body good [] (fn := Tryz.f155) (by kernel_rfl) (by kernel_rfl) rfl rfl (by kernel_rfl) rfl (by kernel_rfl) ?_
  conv => whnf
  repeat' (first
    | (refine codeK_sound good (mu := []) ?_; conv => whnf)
    | ((first | rw [wl0] | rw [wl1] | rw [wl2] | rw [wl3] | rw [wl4] | rw [wl5]); conv => whnf)
    | (refine SBool.mk (fun _ => ?_) (fun h => absurd (of_decide_eq_true rfl) h); conv => whnf)
    | (refine SBool.mk (fun h => absurd h (of_decide_eq_false rfl)) (fun _ => ?_); conv => whnf)
    | (refine SBool.mk (fun h => ?_) (fun h => ?_) <;> conv => whnf)
    | (refine SEx.mk _ (by first | exact rfl | exact ⟨of_decide_eq_true rfl, rfl⟩) ?_; conv => whnf)
    | (refine SAll.mk (fun _ => ?_); conv => whnf)
    | (refine SAnd.mk ⟨by intro c hc; simp at hc; first | (subst hc; rfl) | ((repeat' (rcases hc with rfl | hc)) <;> first | rfl | (subst hc; rfl)), by (simp; first | done | omega), by (simp; first | done | omega)⟩ ?_; conv => whnf)
    | (refine SAnd.mk (by first | exact rfl | kernel_rfl | omega | decide) ?_; conv => whnf)
    | fail)
  exact ⟨PLe.refl _⟩
theorem tones2_pure (s : Sg) : APure C 156 [.agg (sc s)] (.agg (gc s.h)) := by
  refine APure.of_body good [] (fn := Tryz.f156) (by kernel_rfl) (by kernel_rfl) rfl rfl (by kernel_rfl) rfl (by kernel_rfl) ?_
  conv => whnf
  repeat' (first
    | (refine codeK_sound good (mu := []) ?_; conv => whnf)
    | ((first | rw [wl0] | rw [wl1] | rw [wl2] | rw [wl3] | rw [wl4] | rw [wl5]); conv => whnf)
    | (refine SBool.mk (fun _ => ?_) (fun h => absurd (of_decide_eq_true rfl) h); conv => whnf)
    | (refine SBool.mk (fun h => absurd h (of_decide_eq_false rfl)) (fun _ => ?_); conv => whnf)
    | (refine SBool.mk (fun h => ?_) (fun h => ?_) <;> conv => whnf)
    | (refine SEx.mk _ (by first | exact rfl | exact ⟨of_decide_eq_true rfl, rfl⟩) ?_; conv => whnf)
    | (refine SAll.mk (fun _ => ?_); conv => whnf)
    | (refine SAnd.mk ⟨by intro c hc; simp at hc; first | (subst hc; rfl) | ((repeat' (rcases hc with rfl | hc)) <;> first | rfl | (subst hc; rfl)), by (simp; first | done | omega), by (simp; first | done | omega)⟩ ?_; conv => whnf)
    | (refine SAnd.mk (by first | exact rfl | kernel_rfl | omega | decide) ?_; conv => whnf)
    | fail)
  exact ⟨PLe.refl _⟩
def depthL (s : Sg) : R := if checkE s = 0 then low (aga s s.l) (sq s.c) else R0
def depthH (s : Sg) : R := if checkE s = 0 then low (aga s s.h) (sq s.c) else R0
theorem Depths_pure (s : Sg) : APure C 15 [.agg (sc s)] (.tup [.agg (rc (depthL s)), .agg (rc (depthH s)), I (checkE s)]) := by
  refine APure.of_body good [] (fn := Tryz.f15) (by kernel_rfl) (by kernel_rfl) rfl rfl (by kernel_rfl) rfl (by kernel_rfl) ?_
  conv => whnf
  repeat' (first
    | (refine codeK_sound good (mu := []) ?_; conv => whnf)
    | ((first | rw [wl0] | rw [wl1] | rw [wl2] | rw [wl3] | rw [wl4] | rw [wl5]); conv => whnf)
    | (refine SBool.mk (fun _ => ?_) (fun h => absurd (of_decide_eq_true rfl) h); conv => whnf)
    | (refine SBool.mk (fun h => absurd h (of_decide_eq_false rfl)) (fun _ => ?_); conv => whnf)
    | (refine SBool.mk (fun h => ?_) (fun h => ?_) <;> conv => whnf)
    | (refine SEx.mk _ (by first | exact CheckSignal_pure _ | exact tones_pure) ?_; conv => whnf)
    | (refine SEx.mk _ (by first | exact rfl | exact ⟨of_decide_eq_true rfl, rfl⟩) ?_; conv => whnf)
    | (refine SAll.mk (fun _ => ?_); conv => whnf)
    | (refine SAnd.mk ⟨by intro c hc; simp at hc; first | (subst hc; rfl) | ((repeat' (rcases hc with rfl | hc)) <;> first | rfl | (subst hc; rfl)), by (simp; first | done | omega), by (simp; first | done | omega)⟩ ?_; conv => whnf)
    | (refine SAnd.mk (by first | exact rfl | kernel_rfl | omega | decide | exact CheckSignal_pure _ | exact tones_pure) ?_; conv => whnf)
    | fail)
  · have hv := checkE_zero.1 h
    have hf := hv.fit.mono (n := 1000000) (by decide)
    have b1 := aga_bound hv.fit.c hv.fit.l; have b3 := aga_bound hv.fit.c hv.fit.h; have b2 := sq_le hv.fit.c
    refine ⟨AWp.rounds 3 ?_⟩
    conv => whnf
    repeat' (first
      | (refine codeK_sound good (mu := []) ?_; conv => whnf)
      | ((first | rw [wl0] | rw [wl1] | rw [wl2] | rw [wl3] | rw [wl4] | rw [wl5]); conv => whnf)
      | (refine SBool.mk (fun _ => ?_) (fun h => absurd (of_decide_eq_true rfl) h); conv => whnf)
      | (refine SBool.mk (fun h => absurd h (of_decide_eq_false rfl)) (fun _ => ?_); conv => whnf)
      | (refine SBool.mk (fun h => ?_) (fun h => ?_) <;> conv => whnf)
      | (refine SEx.mk _ (by first | exact tones1_pure s | exact tones2_pure s | exact against_pure s s.l hf.c (hf.l.mono (by decide)) | exact against_pure s s.h hf.c (hf.h.mono (by decide)) | exact square_fit s.c hf.c | exact lowest_pure _ _ (by omega) hv.sq_pos (by omega)) ?_; conv => whnf)
      | (refine SEx.mk _ (by first | exact rfl | exact ⟨of_decide_eq_true rfl, rfl⟩) ?_; conv => whnf)
      | (refine SAll.mk (fun _ => ?_); conv => whnf)
      | (refine SAnd.mk ⟨by intro c hc; simp at hc; first | (subst hc; rfl) | ((repeat' (rcases hc with rfl | hc)) <;> first | rfl | (subst hc; rfl)), by (simp; first | done | omega), by (simp; first | done | omega)⟩ ?_; conv => whnf)
      | (refine SAnd.mk (by first | exact rfl | kernel_rfl | omega | decide | exact tones1_pure s | exact tones2_pure s | exact against_pure s s.l hf.c (hf.l.mono (by decide)) | exact against_pure s s.h hf.c (hf.h.mono (by decide)) | exact square_fit s.c hf.c | exact lowest_pure _ _ (by omega) hv.sq_pos (by omega)) ?_; conv => whnf)
      | fail)
    exact ⟨PLe.of_eq (by unfold depthL depthH; rw [if_pos h, if_pos h, h])⟩
  · exact ⟨PLe.of_eq (by unfold depthL depthH; rw [if_neg h, if_neg h]; rfl)⟩
end Go.Proofs.Ab.Tone
end
section
/- Receivers. -/
set_option maxRecDepth 100000
set_option linter.unusedVariables false
set_option linter.unusedSimpArgs false
namespace Go.Proofs.Ab.Tone
open Go Go.RowKit Go.Proofs.Ab
structure Rx where
  scale : Int
  full : Int
  least : Int
  lo : Int
  hi : Int
  deriving DecidableEq
abbrev xc (r : Rx) : List PV := [I r.scale, I r.full, I r.least, I r.lo, I r.hi]
def ordE (a b : Int) : Int := if b < a then 11 else 0
theorem when_ord (a b : Int) (h : b < a) : APure C 100 [Bo true, I 11] (I (ordE a b)) := by
  unfold ordE; rw [if_pos h]; exact when_pure true 11
theorem when_nord (a b : Int) (h : ¬ b < a) : APure C 100 [Bo false, I 11] (I (ordE a b)) := by
  unfold ordE; rw [if_neg h]; exact when_pure false 11
def rxE (r : Rx) : Int := firstOf [within r.scale 1 1000, within r.full 1 1000, within r.least 0 200000000, within r.lo (-10000) 10000, within r.hi (-10000) 10000, ordE r.lo r.hi]
theorem CheckReceiver_pure (r : Rx) : APure C 38 [.agg (xc r)] (I (rxE r)) := by
  refine APure.of_body good [] (fn := Tryz.f38) (by kernel_rfl) (by kernel_rfl) rfl rfl (by kernel_rfl) rfl (by kernel_rfl) ?_
  conv => whnf
  repeat' (first
    | (refine codeK_sound good (mu := []) ?_; conv => whnf)
    | ((first | rw [wl0] | rw [wl1] | rw [wl2] | rw [wl3] | rw [wl4] | rw [wl5]); conv => whnf)
    | (refine SBool.mk (fun _ => ?_) (fun h => absurd (of_decide_eq_true rfl) h); conv => whnf)
    | (refine SBool.mk (fun h => absurd h (of_decide_eq_false rfl)) (fun _ => ?_); conv => whnf)
    | (refine SBool.mk (fun h => ?_) (fun h => ?_) <;> conv => whnf)
    | (refine SEx.mk _ (by first | exact within_pure _ _ _ | exact when_ord _ _ (by assumption) | exact when_nord _ _ (by assumption) | exact first6_pure _ _ _ _ _ _) ?_; conv => whnf)
    | (refine SEx.mk _ (by first | exact rfl | exact ⟨of_decide_eq_true rfl, rfl⟩) ?_; conv => whnf)
    | (refine SAll.mk (fun _ => ?_); conv => whnf)
    | (refine SAnd.mk ⟨by intro c hc; simp at hc; first | (subst hc; rfl) | ((repeat' (rcases hc with rfl | hc)) <;> first | rfl | (subst hc; rfl)), by (simp; first | done | omega), by (simp; first | done | omega)⟩ ?_; conv => whnf)
    | (refine SAnd.mk (by first | exact rfl | kernel_rfl | omega | decide | exact within_pure _ _ _ | exact when_ord _ _ (by assumption) | exact when_nord _ _ (by assumption) | exact first6_pure _ _ _ _ _ _) ?_; conv => whnf)
    | fail)
  all_goals exact ⟨PLe.refl _⟩
structure RxOk (r : Rx) : Prop where
  s : 1 ≤ r.scale ∧ r.scale ≤ 1000
  f : 1 ≤ r.full ∧ r.full ≤ 1000
  l : 0 ≤ r.least ∧ r.least ≤ 200000000
  lo : -10000 ≤ r.lo ∧ r.lo ≤ 10000
  hi : -10000 ≤ r.hi ∧ r.hi ≤ 10000
  o : r.lo ≤ r.hi
theorem ordE_zero {a b : Int} : ordE a b = 0 ↔ a ≤ b := by
  unfold ordE
  split
  · rename_i h; simp; omega
  · rename_i h; simp; omega
theorem rxE_zero {r : Rx} : rxE r = 0 ↔ RxOk r := by
  unfold rxE
  rw [firstOf_zero, firstOf_zero, firstOf_zero, firstOf_zero, firstOf_zero, firstOf_zero, within_zero, within_zero, within_zero, within_zero, within_zero, ordE_zero]
  exact ⟨fun ⟨h1, h2, h3, h4, h5, h6, _⟩ => ⟨h1, h2, h3, h4, h5, h6⟩, fun h => ⟨h.s, h.f, h.l, h.lo, h.hi, h.o, rfl⟩⟩

theorem floor_pure (n d : Int) (hn : n.natAbs ≤ 4000000000000000000) (hd : 0 < d) : APure C 119 [I n, I d] (I (n / d)) := by
  have b1 := natAbs_tdiv_le n d
  have e0 : wrapK IntKind.i64 (n.tdiv d) = n.tdiv d := w64 (by omega)
  have hd0 : d ≠ 0 := by omega
  refine APure.of_body good [] (fn := Tryz.f119) (by kernel_rfl) (by kernel_rfl) rfl rfl (by kernel_rfl) rfl (by kernel_rfl) ?_
  conv => whnf
  refine SAnd.mk hd0 ?_
  conv => whnf
  refine SAnd.mk hd0 ?_
  conv => whnf
  repeat' (first
    | (refine codeK_sound good (mu := []) ?_; conv => whnf)
    | ((first | rw [wl0] | rw [wl1] | rw [wl2] | rw [wl3] | rw [wl4] | rw [wl5]); conv => whnf)
    | (refine SBool.mk (fun _ => ?_) (fun h => absurd (of_decide_eq_true rfl) h); conv => whnf)
    | (refine SBool.mk (fun h => absurd h (of_decide_eq_false rfl)) (fun _ => ?_); conv => whnf)
    | (refine SBool.mk (fun h => ?_) (fun h => ?_) <;> conv => whnf)
    | (refine SEx.mk _ (by first | exact rfl | exact ⟨of_decide_eq_true rfl, rfl⟩) ?_; conv => whnf)
    | (refine SAll.mk (fun _ => ?_); conv => whnf)
    | (refine SAnd.mk ⟨by intro c hc; simp at hc; first | (subst hc; rfl) | ((repeat' (rcases hc with rfl | hc)) <;> first | rfl | (subst hc; rfl)), by (simp; first | done | omega), by (simp; first | done | omega)⟩ ?_; conv => whnf)
    | (refine SAnd.mk (by first | exact rfl | kernel_rfl | omega | decide) ?_; conv => whnf)
    | fail)
  · refine ⟨PLe.of_eq ?_⟩
    rw [e0]
    have e1 : wrapK IntKind.i64 (n.tdiv d - 1) = n.tdiv d - 1 := wrap_id (by omega) (by omega)
    rw [e1]
    have h1 : n.tmod d < 0 := h
    have h2 := Int.tmod_def n d
    have h3 := Int.lt_tmod_of_pos n hd
    have : n / d = n.tdiv d - 1 := by
      rw [Int.ediv_eq_iff_of_pos hd]
      constructor
      · rw [Int.sub_mul, Int.mul_comm]; omega
      · rw [Int.sub_mul, Int.one_mul, Int.mul_comm]; omega
    rw [this]
  · refine ⟨PLe.of_eq ?_⟩
    rw [e0]
    have h1 : ¬ n.tmod d < 0 := h
    have h2 := Int.tmod_def n d
    have h3 := Int.tmod_lt_of_pos n hd
    have : n / d = n.tdiv d := by
      rw [Int.ediv_eq_iff_of_pos hd]
      constructor
      · rw [Int.mul_comm]; omega
      · rw [Int.mul_comm]; omega
    rw [this]

def shownI (r : Rx) (num den : Int) : Int := max (0 - r.full) (min r.full ((2 * num * r.scale + den) / (2 * den)))
theorem shown_pure (r : Rx) (h : RxOk r) (num den : Int) (hn : num.natAbs ≤ 1000000000000) (hd : 0 < den) (hd2 : den ≤ 1000000000000) : APure C 125 [.agg (xc r), I num, I den] (I (shownI r num den)) := by
  have hs := h.s; have hf := h.f
  have e1 : wrapK IntKind.i64 (2 * num) = 2 * num := w64 (by omega)
  have hb : (2 * num * r.scale).natAbs ≤ 2000000000000 * 1000 := by rw [Int.natAbs_mul]; exact Nat.mul_le_mul (by omega) (by omega)
  have e2 : wrapK IntKind.i64 (2 * num * r.scale) = 2 * num * r.scale := w64 (by omega)
  have e3 : wrapK IntKind.i64 (2 * num * r.scale + den) = 2 * num * r.scale + den := w64 (by omega)
  have e4 : wrapK IntKind.i64 (2 * den) = 2 * den := w64 (by omega)
  have e5 : wrapK IntKind.i64 (0 - r.full) = 0 - r.full := w64 (by omega)
  refine APure.of_body good [] (fn := Tryz.f125) (by kernel_rfl) (by kernel_rfl) rfl rfl (by kernel_rfl) rfl (by kernel_rfl) ?_
  conv => whnf
  repeat' (first
    | (refine codeK_sound good (mu := []) ?_; conv => whnf)
    | ((first | rw [wl0] | rw [wl1] | rw [wl2] | rw [wl3] | rw [wl4] | rw [wl5]); conv => whnf)
    | (refine SBool.mk (fun _ => ?_) (fun h => absurd (of_decide_eq_true rfl) h); conv => whnf)
    | (refine SBool.mk (fun h => absurd h (of_decide_eq_false rfl)) (fun _ => ?_); conv => whnf)
    | (refine SBool.mk (fun h => ?_) (fun h => ?_) <;> conv => whnf)
    | (refine SEx.mk _ (by first | exact rfl | exact ⟨of_decide_eq_true rfl, rfl⟩) ?_; conv => whnf)
    | (refine SAll.mk (fun _ => ?_); conv => whnf)
    | (refine SAnd.mk ⟨by intro c hc; simp at hc; first | (subst hc; rfl) | ((repeat' (rcases hc with rfl | hc)) <;> first | rfl | (subst hc; rfl)), by (simp; first | done | omega), by (simp; first | done | omega)⟩ ?_; conv => whnf)
    | (refine SAnd.mk (by first | exact rfl | kernel_rfl | omega | decide) ?_; conv => whnf)
    | fail)
  rw [e1, e2, e3, e4]
  conv => whnf
  repeat' (first
    | (refine codeK_sound good (mu := []) ?_; conv => whnf)
    | ((first | rw [wl0] | rw [wl1] | rw [wl2] | rw [wl3] | rw [wl4] | rw [wl5]); conv => whnf)
    | (refine SBool.mk (fun _ => ?_) (fun h => absurd (of_decide_eq_true rfl) h); conv => whnf)
    | (refine SBool.mk (fun h => absurd h (of_decide_eq_false rfl)) (fun _ => ?_); conv => whnf)
    | (refine SBool.mk (fun h => ?_) (fun h => ?_) <;> conv => whnf)
    | (refine SEx.mk _ (by first | exact floor_pure _ _ (by omega) (by omega)) ?_; conv => whnf)
    | (refine SEx.mk _ (by first | exact rfl | exact ⟨of_decide_eq_true rfl, rfl⟩) ?_; conv => whnf)
    | (refine SAll.mk (fun _ => ?_); conv => whnf)
    | (refine SAnd.mk ⟨by intro c hc; simp at hc; first | (subst hc; rfl) | ((repeat' (rcases hc with rfl | hc)) <;> first | rfl | (subst hc; rfl)), by (simp; first | done | omega), by (simp; first | done | omega)⟩ ?_; conv => whnf)
    | (refine SAnd.mk (by first | exact rfl | kernel_rfl | omega | decide | exact floor_pure _ _ (by omega) (by omega)) ?_; conv => whnf)
    | fail)
  exact ⟨PLe.of_eq (by rw [e5]; rfl)⟩
abbrev bWeak : ByteArray := ⟨#[119, 101, 97, 107]⟩
abbrev bDepth : ByteArray := ⟨#[100, 101, 112, 116, 104]⟩
abbrev bNone : ByteArray := ⟨#[]⟩
def flagB (r : Rx) (s : Sg) : ByteArray := if sq s.c < r.least then bWeak else if 1000 * tot s < r.lo * sq s.c ∨ r.hi * sq s.c < 1000 * tot s then bDepth else bNone
theorem flag_pure (r : Rx) (s : Sg) (hr : RxOk r) (h : Ok s) : APure C 134 [.agg (xc r), .agg (sc s)] (St (flagB r s)) := by
  have hf := h.fit.mono (n := 1000000) (by decide)
  have b1 := tot_bound h.fit; have b2 := sq_le h.fit.c; have b3 := h.sq_pos
  have l1 := hr.lo; have l2 := hr.hi
  have e1 : wrapK IntKind.i64 (1000 * tot s) = 1000 * tot s := w64 (by omega)
  have hb1 : (r.lo * sq s.c).natAbs ≤ 10000 * 200000000 := by rw [Int.natAbs_mul]; exact Nat.mul_le_mul (by omega) (by omega)
  have hb2 : (r.hi * sq s.c).natAbs ≤ 10000 * 200000000 := by rw [Int.natAbs_mul]; exact Nat.mul_le_mul (by omega) (by omega)
  have e2 : wrapK IntKind.i64 (r.lo * sq s.c) = r.lo * sq s.c := w64 (by omega)
  have e3 : wrapK IntKind.i64 (r.hi * sq s.c) = r.hi * sq s.c := w64 (by omega)
  refine APure.of_body good [] (fn := Tryz.f134) (by kernel_rfl) (by kernel_rfl) rfl rfl (by kernel_rfl) rfl (by kernel_rfl) ?_
  conv => whnf
  repeat' (first
    | (refine codeK_sound good (mu := []) ?_; conv => whnf)
    | ((first | rw [wl0] | rw [wl1] | rw [wl2] | rw [wl3] | rw [wl4] | rw [wl5]); conv => whnf)
    | (refine SBool.mk (fun _ => ?_) (fun h => absurd (of_decide_eq_true rfl) h); conv => whnf)
    | (refine SBool.mk (fun h => absurd h (of_decide_eq_false rfl)) (fun _ => ?_); conv => whnf)
    | (refine SBool.mk (fun h => ?_) (fun h => ?_) <;> conv => whnf)
    | (refine SEx.mk _ (by first | exact square_fit s.c hf.c | exact sum_pure s hf) ?_; conv => whnf)
    | (refine SEx.mk _ (by first | exact rfl | exact ⟨of_decide_eq_true rfl, rfl⟩) ?_; conv => whnf)
    | (refine SAll.mk (fun _ => ?_); conv => whnf)
    | (refine SAnd.mk ⟨by intro c hc; simp at hc; first | (subst hc; rfl) | ((repeat' (rcases hc with rfl | hc)) <;> first | rfl | (subst hc; rfl)), by (simp; first | done | omega), by (simp; first | done | omega)⟩ ?_; conv => whnf)
    | (refine SAnd.mk (by first | exact rfl | kernel_rfl | omega | decide | exact square_fit s.c hf.c | exact sum_pure s hf) ?_; conv => whnf)
    | fail)
  all_goals simp only [e1, e2, e3] at *
  all_goals exact ⟨PLe.of_eq (by simp [flagB, *])⟩
theorem toList_beq (a b : ByteArray) : (a.toList == b.toList) = decide (a = b) := by
  by_cases h : a = b
  · subst h; simp
  · have : ¬ a.toList = b.toList := fun e => h (by
      rw [ByteArray.toList_eq, ByteArray.toList_eq] at e
      obtain ⟨⟨x⟩⟩ := a
      obtain ⟨⟨y⟩⟩ := b
      simp at e
      rw [e])
    simp [h, this]
theorem neq_string (t : TypeId) (a b : ByteArray) : ∀ w, (binOp .neq t (.string a) (.string b)).run C.P w = .ok (.bool (decide (a ≠ b))) w := by
  intro w
  rw [binOp_string_neq, toList_beq]
  by_cases h : a = b <;> simp [h]
theorem eql_string (t : TypeId) (a b : ByteArray) : ∀ w, (binOp .eql t (.string a) (.string b)).run C.P w = .ok (.bool (decide (a = b))) w := by
  intro w
  rw [binOp_string_eql, toList_beq]
  rfl
def toldI (r : Rx) (s : Sg) : Int := if flagB r s = bNone then shownI r (dif s) (sq s.c) else 0
theorem told_pure (r : Rx) (s : Sg) (hr : RxOk r) (hv : Ok s) : APure C 113 [.agg (xc r), .agg (sc s)] (.tup [I (toldI r s), St (flagB r s)]) := by
  have hf := hv.fit.mono (n := 1000000) (by decide)
  have b1 := dif_bound hv.fit; have b2 := sq_le hv.fit.c; have b3 := hv.sq_pos
  refine APure.of_body good [] (fn := Tryz.f113) (by kernel_rfl) (by kernel_rfl) rfl rfl (by kernel_rfl) rfl (by kernel_rfl) ?_
  conv => whnf
  repeat' (first
    | (refine codeK_sound good (mu := []) ?_; conv => whnf)
    | ((first | rw [wl0] | rw [wl1] | rw [wl2] | rw [wl3] | rw [wl4] | rw [wl5]); conv => whnf)
    | (refine SBool.mk (fun _ => ?_) (fun h => absurd (of_decide_eq_true rfl) h); conv => whnf)
    | (refine SBool.mk (fun h => absurd h (of_decide_eq_false rfl)) (fun _ => ?_); conv => whnf)
    | (refine SBool.mk (fun h => ?_) (fun h => ?_) <;> conv => whnf)
    | (refine SEx.mk _ (by first | exact flag_pure r s hr hv | exact neq_string _ _ _ | exact difference_pure s hf | exact square_fit s.c hf.c | exact shown_pure r hr _ _ (by omega) hv.sq_pos (by omega)) ?_; conv => whnf)
    | (refine SEx.mk _ (by first | exact rfl | exact ⟨of_decide_eq_true rfl, rfl⟩) ?_; conv => whnf)
    | (refine SAll.mk (fun _ => ?_); conv => whnf)
    | (refine SAnd.mk ⟨by intro c hc; simp at hc; first | (subst hc; rfl) | ((repeat' (rcases hc with rfl | hc)) <;> first | rfl | (subst hc; rfl)), by (simp; first | done | omega), by (simp; first | done | omega)⟩ ?_; conv => whnf)
    | (refine SAnd.mk (by first | exact rfl | kernel_rfl | omega | decide | exact flag_pure r s hr hv | exact neq_string _ _ _ | exact difference_pure s hf | exact square_fit s.c hf.c | exact shown_pure r hr _ _ (by omega) hv.sq_pos (by omega)) ?_; conv => whnf)
    | fail)
  all_goals rw [decide_eq_true_eq] at h
  · exact ⟨PLe.of_eq (by unfold toldI; rw [if_neg h])⟩
  · have h0 : flagB r s = bNone := Classical.byContradiction h
    exact ⟨PLe.of_eq (by unfold toldI; rw [if_pos h0, h0])⟩
def toldE (r : Rx) (s : Sg) : Int := firstOf [rxE r, checkE s]
theorem toldE_zero {r : Rx} {s : Sg} : toldE r s = 0 ↔ RxOk r ∧ Ok s := by
  unfold toldE
  rw [firstOf_zero, firstOf_zero, rxE_zero, checkE_zero]
  exact ⟨fun ⟨h1, h2, _⟩ => ⟨h1, h2⟩, fun h => ⟨h.1, h.2, rfl⟩⟩
theorem Told_pure (r : Rx) (s : Sg) : APure C 39 [.agg (xc r), .agg (sc s)] (.tup [I (if toldE r s = 0 then toldI r s else 0), St (if toldE r s = 0 then flagB r s else bNone), I (toldE r s)]) := by
  refine APure.of_body good [] (fn := Tryz.f39) (by kernel_rfl) (by kernel_rfl) rfl rfl (by kernel_rfl) rfl (by kernel_rfl) ?_
  conv => whnf
  repeat' (first
    | (refine codeK_sound good (mu := []) ?_; conv => whnf)
    | ((first | rw [wl0] | rw [wl1] | rw [wl2] | rw [wl3] | rw [wl4] | rw [wl5]); conv => whnf)
    | (refine SBool.mk (fun _ => ?_) (fun h => absurd (of_decide_eq_true rfl) h); conv => whnf)
    | (refine SBool.mk (fun h => absurd h (of_decide_eq_false rfl)) (fun _ => ?_); conv => whnf)
    | (refine SBool.mk (fun h => ?_) (fun h => ?_) <;> conv => whnf)
    | (refine SEx.mk _ (by first | exact CheckReceiver_pure r | exact CheckSignal_pure s | exact first2_pure _ _) ?_; conv => whnf)
    | (refine SEx.mk _ (by first | exact rfl | exact ⟨of_decide_eq_true rfl, rfl⟩) ?_; conv => whnf)
    | (refine SAll.mk (fun _ => ?_); conv => whnf)
    | (refine SAnd.mk ⟨by intro c hc; simp at hc; first | (subst hc; rfl) | ((repeat' (rcases hc with rfl | hc)) <;> first | rfl | (subst hc; rfl)), by (simp; first | done | omega), by (simp; first | done | omega)⟩ ?_; conv => whnf)
    | (refine SAnd.mk (by first | exact rfl | kernel_rfl | omega | decide | exact CheckReceiver_pure r | exact CheckSignal_pure s | exact first2_pure _ _) ?_; conv => whnf)
    | fail)
  · have h0 : toldE r s = 0 := h
    have h' := toldE_zero.1 h0
    conv => whnf
    repeat' (first
      | (refine codeK_sound good (mu := []) ?_; conv => whnf)
      | ((first | rw [wl0] | rw [wl1] | rw [wl2] | rw [wl3] | rw [wl4] | rw [wl5]); conv => whnf)
      | (refine SBool.mk (fun _ => ?_) (fun h => absurd (of_decide_eq_true rfl) h); conv => whnf)
      | (refine SBool.mk (fun h => absurd h (of_decide_eq_false rfl)) (fun _ => ?_); conv => whnf)
      | (refine SBool.mk (fun h => ?_) (fun h => ?_) <;> conv => whnf)
      | (refine SEx.mk _ (by first | exact told_pure r s h'.1 h'.2) ?_; conv => whnf)
      | (refine SEx.mk _ (by first | exact rfl | exact ⟨of_decide_eq_true rfl, rfl⟩) ?_; conv => whnf)
      | (refine SAll.mk (fun _ => ?_); conv => whnf)
      | (refine SAnd.mk ⟨by intro c hc; simp at hc; first | (subst hc; rfl) | ((repeat' (rcases hc with rfl | hc)) <;> first | rfl | (subst hc; rfl)), by (simp; first | done | omega), by (simp; first | done | omega)⟩ ?_; conv => whnf)
      | (refine SAnd.mk (by first | exact rfl | kernel_rfl | omega | decide | exact told_pure r s h'.1 h'.2) ?_; conv => whnf)
      | fail)
    exact ⟨PLe.of_eq (by rw [if_pos h0, if_pos h0, h0])⟩
  · have h0 : ¬ toldE r s = 0 := h
    exact ⟨PLe.of_eq (by rw [if_neg h0, if_neg h0]; rfl)⟩
end Go.Proofs.Ab.Tone
end
section
/- Lists of signals; two signals; losses and noise. -/
set_option maxRecDepth 100000
set_option linter.unusedVariables false
set_option linter.unusedSimpArgs false
namespace Go.Proofs.Ab.Tone
open Go Go.RowKit Go.Proofs.Ab
theorem firstM_pure {α : Type} (f : α → Int) (xs : List α) (hl : xs.length ≤ 1000000) : APure C 98 [.seq 1 (xs.map fun x => [I (f x)])] (I (firstOf (xs.map f))) := by
  have := first_pure (xs.map f) (by simp; omega)
  simpa [ints, List.map_map, Function.comp_def] using this
def checkL (xs : List Sg) : Int := firstOf [sizedE xs.length 256, firstOf (xs.map checkE)]
theorem checkSignals_pure (xs : List Sg) (hl : xs.length ≤ 1000000) : APure C 116 [.seq 6 (xs.map sc)] (I (checkL xs)) := by
  refine APure.of_body good [] (fn := Tryz.f116) (by kernel_rfl) (by kernel_rfl) rfl rfl (by kernel_rfl) rfl (by kernel_rfl) ?_
  conv => whnf
  repeat' (first
    | (refine codeK_sound good (mu := []) ?_; conv => whnf)
    | ((first | rw [wl0] | rw [wl1] | rw [wl2] | rw [wl3] | rw [wl4] | rw [wl5]); conv => whnf)
    | (refine SBool.mk (fun _ => ?_) (fun h => absurd (of_decide_eq_true rfl) h); conv => whnf)
    | (refine SBool.mk (fun h => absurd h (of_decide_eq_false rfl)) (fun _ => ?_); conv => whnf)
    | (refine SBool.mk (fun h => ?_) (fun h => ?_) <;> conv => whnf)
    | (refine SEx.mk _ (by first | exact sized_pure _ _ | exact mapped164_pure checkE 25 [] xs hl (fun x _ => CheckSignal_pure x) | exact firstM_pure checkE xs hl | exact first2_pure _ _) ?_; conv => whnf)
    | (refine SEx.mk _ (by first | exact rfl | exact ⟨of_decide_eq_true rfl, rfl⟩) ?_; conv => whnf)
    | (refine SAll.mk (fun _ => ?_); conv => whnf)
    | (refine SAnd.mk ⟨by intro c hc; simp at hc; first | (subst hc; rfl) | ((repeat' (rcases hc with rfl | hc)) <;> first | rfl | (subst hc; rfl)), by (simp; first | done | omega), by (simp; first | done | omega)⟩ ?_; conv => whnf)
    | (refine SAnd.mk (by first | exact rfl | kernel_rfl | omega | decide | exact sized_pure _ _ | exact mapped164_pure checkE 25 [] xs hl (fun x _ => CheckSignal_pure x) | exact firstM_pure checkE xs hl | exact first2_pure _ _) ?_; conv => whnf)
    | fail)
  exact ⟨PLe.of_eq (by simp [checkL])⟩
abbrev sc2 (a b : Sg) : List PV := [I a.c.re, I a.c.im, I a.l.re, I a.l.im, I a.h.re, I a.h.im, I b.c.re, I b.c.im, I b.l.re, I b.l.im, I b.h.re, I b.h.im]
def twoE (a b : Sg) (band : Int) : Int := firstOf [firstOf [checkE a, checkE b], within band 1000 10000]
theorem checkTwo_pure (a b : Sg) (band : Int) : APure C 121 [.agg (sc2 a b), I band] (I (twoE a b band)) := by
  refine APure.of_body good [] (fn := Tryz.f121) (by kernel_rfl) (by kernel_rfl) rfl rfl (by kernel_rfl) rfl (by kernel_rfl) ?_
  conv => whnf
  repeat' (first
    | (refine codeK_sound good (mu := []) ?_; conv => whnf)
    | ((first | rw [wl0] | rw [wl1] | rw [wl2] | rw [wl3] | rw [wl4] | rw [wl5]); conv => whnf)
    | (refine SBool.mk (fun _ => ?_) (fun h => absurd (of_decide_eq_true rfl) h); conv => whnf)
    | (refine SBool.mk (fun h => absurd h (of_decide_eq_false rfl)) (fun _ => ?_); conv => whnf)
    | (refine SBool.mk (fun h => ?_) (fun h => ?_) <;> conv => whnf)
    | (refine SEx.mk _ (by first | exact mapped164_pure checkE 25 [] [a, b] (by simp) (fun x _ => CheckSignal_pure x) | exact within_pure _ _ _ | exact first2_pure _ _) ?_; conv => whnf)
    | (refine SEx.mk _ (by first | exact rfl | exact ⟨of_decide_eq_true rfl, rfl⟩) ?_; conv => whnf)
    | (refine SAll.mk (fun _ => ?_); conv => whnf)
    | (refine SAnd.mk ⟨by intro c hc; simp at hc; first | (subst hc; rfl) | ((repeat' (rcases hc with rfl | hc)) <;> first | rfl | (subst hc; rfl)), by (simp; first | done | omega), by (simp; first | done | omega)⟩ ?_; conv => whnf)
    | (refine SAnd.mk (by first | exact rfl | kernel_rfl | omega | decide | exact mapped164_pure checkE 25 [] [a, b] (by simp) (fun x _ => CheckSignal_pure x) | exact within_pure _ _ _ | exact first2_pure _ _) ?_; conv => whnf)
    | fail)
  exact ⟨PLe.refl _⟩
theorem captured1_pure (s : Sg) (h : s.c.Fit 1000000) : APure C 165 [.agg (sc s)] (I (sq s.c)) := by
  refine APure.of_body good [] (fn := Tryz.f165) (by kernel_rfl) (by kernel_rfl) rfl rfl (by kernel_rfl) rfl (by kernel_rfl) ?_
  conv => whnf
  repeat' (first
    | (refine codeK_sound good (mu := []) ?_; conv => whnf)
    | ((first | rw [wl0] | rw [wl1] | rw [wl2] | rw [wl3] | rw [wl4] | rw [wl5]); conv => whnf)
    | (refine SBool.mk (fun _ => ?_) (fun h => absurd (of_decide_eq_true rfl) h); conv => whnf)
    | (refine SBool.mk (fun h => absurd h (of_decide_eq_false rfl)) (fun _ => ?_); conv => whnf)
    | (refine SBool.mk (fun h => ?_) (fun h => ?_) <;> conv => whnf)
    | (refine SEx.mk _ (by first | exact square_fit s.c h) ?_; conv => whnf)
    | (refine SEx.mk _ (by first | exact rfl | exact ⟨of_decide_eq_true rfl, rfl⟩) ?_; conv => whnf)
    | (refine SAll.mk (fun _ => ?_); conv => whnf)
    | (refine SAnd.mk ⟨by intro c hc; simp at hc; first | (subst hc; rfl) | ((repeat' (rcases hc with rfl | hc)) <;> first | rfl | (subst hc; rfl)), by (simp; first | done | omega), by (simp; first | done | omega)⟩ ?_; conv => whnf)
    | (refine SAnd.mk (by first | exact rfl | kernel_rfl | omega | decide | exact square_fit s.c h) ?_; conv => whnf)
    | fail)
  exact ⟨PLe.refl _⟩
def capI (a b : Sg) (band : Int) : Int := if a = b ∧ band = 1000 then 0 else if sq b.c * band ≤ sq a.c * 1000 then 0 else if sq a.c * band ≤ sq b.c * 1000 then 1 else 2
theorem sg_eq (a b : Sg) : a = b ↔ (a.c.re = b.c.re ∧ a.c.im = b.c.im) ∧ (a.l.re = b.l.re ∧ a.l.im = b.l.im) ∧ (a.h.re = b.h.re ∧ a.h.im = b.h.im) := by
  obtain ⟨⟨a1, a2⟩, ⟨a3, a4⟩, ⟨a5, a6⟩⟩ := a
  obtain ⟨⟨b1, b2⟩, ⟨b3, b4⟩, ⟨b5, b6⟩⟩ := b
  simp
theorem captured_pure (a b : Sg) (band : Int) (ha : Ok a) (hb : Ok b) (h0 : 0 ≤ band ∧ band ≤ 10000) : APure C 122 [.agg (sc2 a b), I band] (I (capI a b band)) := by
  have fa := ha.fit.c.mono (n := 1000000) (by decide); have fb := hb.fit.c.mono (n := 1000000) (by decide)
  have a1 := sq_le ha.fit.c; have a2 := ha.sq_pos; have b1 := sq_le hb.fit.c; have b2 := hb.sq_pos
  have p1 : (sq a.c * band).natAbs ≤ 200000000 * 10000 := by rw [Int.natAbs_mul]; exact Nat.mul_le_mul (by omega) (by omega)
  have p2 : (sq b.c * band).natAbs ≤ 200000000 * 10000 := by rw [Int.natAbs_mul]; exact Nat.mul_le_mul (by omega) (by omega)
  have e1 : wrapK IntKind.i64 (sq a.c * 1000) = sq a.c * 1000 := w64 (by omega)
  have e2 : wrapK IntKind.i64 (sq b.c * 1000) = sq b.c * 1000 := w64 (by omega)
  have e3 : wrapK IntKind.i64 (sq a.c * band) = sq a.c * band := w64 (by omega)
  have e4 : wrapK IntKind.i64 (sq b.c * band) = sq b.c * band := w64 (by omega)
  have hm := mapped117_pure (fun s => sq s.c) 165 [] [a, b] (by simp) (fun x hx => captured1_pure x (by simp at hx; rcases hx with rfl | rfl <;> assumption))
  refine APure.of_body good [] (fn := Tryz.f122) (by kernel_rfl) (by kernel_rfl) rfl rfl (by kernel_rfl) rfl (by kernel_rfl) ?_
  conv => whnf
  repeat' (first
    | (refine codeK_sound good (mu := []) ?_; conv => whnf)
    | ((first | rw [wl0] | rw [wl1] | rw [wl2] | rw [wl3] | rw [wl4] | rw [wl5]); conv => whnf)
    | (refine SBool.mk (fun _ => ?_) (fun h => absurd (of_decide_eq_true rfl) h); conv => whnf)
    | (refine SBool.mk (fun h => absurd h (of_decide_eq_false rfl)) (fun _ => ?_); conv => whnf)
    | (refine SBool.mk (fun h => ?_) (fun h => ?_) <;> conv => whnf)
    | refine SCode.mk (AWp.rounds 3 ?_)
    | (refine SEx.mk _ (by first | exact hm | exact eq_signal _ _ _ _ _ _ _ _ _ _ _ _) ?_; conv => whnf)
    | (refine SEx.mk _ (by first | exact rfl | exact ⟨of_decide_eq_true rfl, rfl⟩) ?_; conv => whnf)
    | (refine SAll.mk (fun _ => ?_); conv => whnf)
    | (refine SAnd.mk (by first | exact hm) ?_; conv => whnf)
    | (refine SAnd.mk ⟨by intro c hc; simp at hc; first | (subst hc; rfl) | ((repeat' (rcases hc with rfl | hc)) <;> first | rfl | (subst hc; rfl)), by (simp; first | done | omega), by (simp; first | done | omega)⟩ ?_; conv => whnf)
    | (refine SAnd.mk (by first | exact rfl | kernel_rfl | omega | decide | exact hm | exact eq_signal _ _ _ _ _ _ _ _ _ _ _ _) ?_; conv => whnf)
    | fail)
  all_goals simp only [e1, e2, e3, e4, decide_eq_true_eq] at *
  all_goals refine ⟨PLe.of_eq ?_⟩
  all_goals unfold capI
  all_goals simp only [sg_eq]
  all_goals generalize sq a.c * band = X at *
  all_goals generalize sq b.c * band = Y at *
  all_goals (repeat' split) <;> first | rfl | (exfalso; omega)
theorem twoE_zero {a b : Sg} {band : Int} : twoE a b band = 0 ↔ Ok a ∧ Ok b ∧ 1000 ≤ band ∧ band ≤ 10000 := by
  unfold twoE
  rw [firstOf_zero, firstOf_zero, firstOf_zero, firstOf_zero, checkE_zero, checkE_zero, within_zero]
  exact ⟨fun ⟨⟨h1, h2, _⟩, h3, _⟩ => ⟨h1, h2, h3⟩, fun ⟨h1, h2, h3⟩ => ⟨⟨h1, h2, rfl⟩, h3, rfl⟩⟩
theorem Captured_pure (a b : Sg) (band : Int) : APure C 47 [.agg (sc2 a b), I band] (.tup [I (if twoE a b band = 0 then capI a b band else 0), I (twoE a b band)]) := by
  refine APure.of_body good [] (fn := Tryz.f47) (by kernel_rfl) (by kernel_rfl) rfl rfl (by kernel_rfl) rfl (by kernel_rfl) ?_
  conv => whnf
  repeat' (first
    | (refine codeK_sound good (mu := []) ?_; conv => whnf)
    | ((first | rw [wl0] | rw [wl1] | rw [wl2] | rw [wl3] | rw [wl4] | rw [wl5]); conv => whnf)
    | (refine SBool.mk (fun _ => ?_) (fun h => absurd (of_decide_eq_true rfl) h); conv => whnf)
    | (refine SBool.mk (fun h => absurd h (of_decide_eq_false rfl)) (fun _ => ?_); conv => whnf)
    | (refine SBool.mk (fun h => ?_) (fun h => ?_) <;> conv => whnf)
    | (refine SEx.mk _ (by first | exact checkTwo_pure a b band) ?_; conv => whnf)
    | (refine SEx.mk _ (by first | exact rfl | exact ⟨of_decide_eq_true rfl, rfl⟩) ?_; conv => whnf)
    | (refine SAll.mk (fun _ => ?_); conv => whnf)
    | (refine SAnd.mk ⟨by intro c hc; simp at hc; first | (subst hc; rfl) | ((repeat' (rcases hc with rfl | hc)) <;> first | rfl | (subst hc; rfl)), by (simp; first | done | omega), by (simp; first | done | omega)⟩ ?_; conv => whnf)
    | (refine SAnd.mk (by first | exact rfl | kernel_rfl | omega | decide | exact checkTwo_pure a b band) ?_; conv => whnf)
    | fail)
  · have h0 : twoE a b band = 0 := h
    have h' := twoE_zero.1 h0
    conv => whnf
    repeat' (first
      | (refine codeK_sound good (mu := []) ?_; conv => whnf)
      | ((first | rw [wl0] | rw [wl1] | rw [wl2] | rw [wl3] | rw [wl4] | rw [wl5]); conv => whnf)
      | (refine SBool.mk (fun _ => ?_) (fun h => absurd (of_decide_eq_true rfl) h); conv => whnf)
      | (refine SBool.mk (fun h => absurd h (of_decide_eq_false rfl)) (fun _ => ?_); conv => whnf)
      | (refine SBool.mk (fun h => ?_) (fun h => ?_) <;> conv => whnf)
      | (refine SEx.mk _ (by first | exact captured_pure a b band h'.1 h'.2.1 ⟨by omega, by omega⟩) ?_; conv => whnf)
      | (refine SEx.mk _ (by first | exact rfl | exact ⟨of_decide_eq_true rfl, rfl⟩) ?_; conv => whnf)
      | (refine SAll.mk (fun _ => ?_); conv => whnf)
      | (refine SAnd.mk ⟨by intro c hc; simp at hc; first | (subst hc; rfl) | ((repeat' (rcases hc with rfl | hc)) <;> first | rfl | (subst hc; rfl)), by (simp; first | done | omega), by (simp; first | done | omega)⟩ ?_; conv => whnf)
      | (refine SAnd.mk (by first | exact rfl | kernel_rfl | omega | decide | exact captured_pure a b band h'.1 h'.2.1 ⟨by omega, by omega⟩) ?_; conv => whnf)
      | fail)
    exact ⟨PLe.of_eq (by rw [if_pos h0, h0])⟩
  · have h0 : ¬ twoE a b band = 0 := h
    exact ⟨PLe.of_eq (by rw [if_neg h0])⟩
theorem spread_pure (a b : Int) : APure C 126 [I a, I b] (.agg [I (min a b), I (max a b)]) := by
  refine APure.of_body good [] (fn := Tryz.f126) (by kernel_rfl) (by kernel_rfl) rfl rfl (by kernel_rfl) rfl (by kernel_rfl) ?_
  conv => whnf
  repeat' (first
    | (refine codeK_sound good (mu := []) ?_; conv => whnf)
    | ((first | rw [wl0] | rw [wl1] | rw [wl2] | rw [wl3] | rw [wl4] | rw [wl5]); conv => whnf)
    | (refine SBool.mk (fun _ => ?_) (fun h => absurd (of_decide_eq_true rfl) h); conv => whnf)
    | (refine SBool.mk (fun h => absurd h (of_decide_eq_false rfl)) (fun _ => ?_); conv => whnf)
    | (refine SBool.mk (fun h => ?_) (fun h => ?_) <;> conv => whnf)
    | (refine SEx.mk _ (by first | exact rfl | exact ⟨of_decide_eq_true rfl, rfl⟩) ?_; conv => whnf)
    | (refine SAll.mk (fun _ => ?_); conv => whnf)
    | (refine SAnd.mk ⟨by intro c hc; simp at hc; first | (subst hc; rfl) | ((repeat' (rcases hc with rfl | hc)) <;> first | rfl | (subst hc; rfl)), by (simp; first | done | omega), by (simp; first | done | omega)⟩ ?_; conv => whnf)
    | (refine SAnd.mk (by first | exact rfl | kernel_rfl | omega | decide) ?_; conv => whnf)
    | fail)
  exact ⟨PLe.refl _⟩
def leftI (r : Rx) (s : Sg) (n : Int) : Int := shownI r (dif s * (1000 - n)) (1000 * sq s.c)
theorem lost1_pure (r : Rx) (s : Sg) (n : Int) (hr : RxOk r) (hv : Ok s) (hn : 0 ≤ n ∧ n ≤ 1000) : APure C 124 [I n, .ref (xc r), .ref (sc s)] (I (leftI r s n)) := by
  have hf := hv.fit.mono (n := 1000000) (by decide)
  have b1 := dif_bound hv.fit; have b2 := sq_le hv.fit.c; have b3 := hv.sq_pos
  have e1 : wrapK IntKind.i64 (1000 - n) = 1000 - n := w64 (by omega)
  have p1 : (dif s * (1000 - n)).natAbs ≤ 400000000 * 1000 := by rw [Int.natAbs_mul]; exact Nat.mul_le_mul (by omega) (by omega)
  have e2 : wrapK IntKind.i64 (dif s * (1000 - n)) = dif s * (1000 - n) := w64 (by omega)
  have e3 : wrapK IntKind.i64 (1000 * sq s.c) = 1000 * sq s.c := w64 (by omega)
  refine APure.of_body good [] (fn := Tryz.f124) (by kernel_rfl) (by kernel_rfl) rfl rfl (by kernel_rfl) rfl (by kernel_rfl) ?_
  conv => whnf
  repeat' (first
    | (refine codeK_sound good (mu := []) ?_; conv => whnf)
    | ((first | rw [wl0] | rw [wl1] | rw [wl2] | rw [wl3] | rw [wl4] | rw [wl5]); conv => whnf)
    | (refine SBool.mk (fun _ => ?_) (fun h => absurd (of_decide_eq_true rfl) h); conv => whnf)
    | (refine SBool.mk (fun h => absurd h (of_decide_eq_false rfl)) (fun _ => ?_); conv => whnf)
    | (refine SBool.mk (fun h => ?_) (fun h => ?_) <;> conv => whnf)
    | (refine SEx.mk _ (by first | exact difference_pure s hf | exact square_fit s.c hf.c) ?_; conv => whnf)
    | (refine SEx.mk _ (by first | exact rfl | exact ⟨of_decide_eq_true rfl, rfl⟩) ?_; conv => whnf)
    | (refine SAll.mk (fun _ => ?_); conv => whnf)
    | (refine SAnd.mk ⟨by intro c hc; simp at hc; first | (subst hc; rfl) | ((repeat' (rcases hc with rfl | hc)) <;> first | rfl | (subst hc; rfl)), by (simp; first | done | omega), by (simp; first | done | omega)⟩ ?_; conv => whnf)
    | (refine SAnd.mk (by first | exact rfl | kernel_rfl | omega | decide | exact difference_pure s hf | exact square_fit s.c hf.c) ?_; conv => whnf)
    | fail)
  rw [e1, e2, e3]
  conv => whnf
  repeat' (first
    | (refine codeK_sound good (mu := []) ?_; conv => whnf)
    | ((first | rw [wl0] | rw [wl1] | rw [wl2] | rw [wl3] | rw [wl4] | rw [wl5]); conv => whnf)
    | (refine SBool.mk (fun _ => ?_) (fun h => absurd (of_decide_eq_true rfl) h); conv => whnf)
    | (refine SBool.mk (fun h => absurd h (of_decide_eq_false rfl)) (fun _ => ?_); conv => whnf)
    | (refine SBool.mk (fun h => ?_) (fun h => ?_) <;> conv => whnf)
    | (refine SEx.mk _ (by first | exact shown_pure r hr _ _ (by omega) (by omega) (by omega)) ?_; conv => whnf)
    | (refine SEx.mk _ (by first | exact rfl | exact ⟨of_decide_eq_true rfl, rfl⟩) ?_; conv => whnf)
    | (refine SAll.mk (fun _ => ?_); conv => whnf)
    | (refine SAnd.mk ⟨by intro c hc; simp at hc; first | (subst hc; rfl) | ((repeat' (rcases hc with rfl | hc)) <;> first | rfl | (subst hc; rfl)), by (simp; first | done | omega), by (simp; first | done | omega)⟩ ?_; conv => whnf)
    | (refine SAnd.mk (by first | exact rfl | kernel_rfl | omega | decide | exact shown_pure r hr _ _ (by omega) (by omega) (by omega)) ?_; conv => whnf)
    | fail)
  exact ⟨PLe.refl _⟩
def lostE (r : Rx) (s : Sg) (lo hi : Int) : Int := firstOf [rxE r, checkE s, within lo 0 1000, within hi 0 1000, ordE lo hi]
theorem lostE_zero {r : Rx} {s : Sg} {lo hi : Int} : lostE r s lo hi = 0 ↔ RxOk r ∧ Ok s ∧ (0 ≤ lo ∧ lo ≤ 1000) ∧ (0 ≤ hi ∧ hi ≤ 1000) ∧ lo ≤ hi := by
  unfold lostE
  rw [firstOf_zero, firstOf_zero, firstOf_zero, firstOf_zero, firstOf_zero, rxE_zero, checkE_zero, within_zero, within_zero, ordE_zero]
  exact ⟨fun ⟨h1, h2, h3, h4, h5, _⟩ => ⟨h1, h2, h3, h4, h5⟩, fun ⟨h1, h2, h3, h4, h5⟩ => ⟨h1, h2, h3, h4, h5, rfl⟩⟩
structure Iv where
  lo : Int
  hi : Int
  deriving DecidableEq
abbrev ic (x : Iv) : List PV := [I x.lo, I x.hi]
def lostV (r : Rx) (s : Sg) (lo hi : Int) : Iv := if lostE r s lo hi = 0 then ⟨min (leftI r s lo) (leftI r s hi), max (leftI r s lo) (leftI r s hi)⟩ else ⟨0, 0⟩
theorem Lost_pure (r : Rx) (s : Sg) (lo hi : Int) : APure C 52 [.agg (xc r), .agg (sc s), .agg [I lo, I hi]] (.tup [.agg (ic (lostV r s lo hi)), I (lostE r s lo hi)]) := by
  refine APure.of_body good [] (fn := Tryz.f52) (by kernel_rfl) (by kernel_rfl) rfl rfl (by kernel_rfl) rfl (by kernel_rfl) ?_
  conv => whnf
  repeat' (first
    | (refine codeK_sound good (mu := []) ?_; conv => whnf)
    | ((first | rw [wl0] | rw [wl1] | rw [wl2] | rw [wl3] | rw [wl4] | rw [wl5]); conv => whnf)
    | (refine SBool.mk (fun _ => ?_) (fun h => absurd (of_decide_eq_true rfl) h); conv => whnf)
    | (refine SBool.mk (fun h => absurd h (of_decide_eq_false rfl)) (fun _ => ?_); conv => whnf)
    | (refine SBool.mk (fun h => ?_) (fun h => ?_) <;> conv => whnf)
    | (refine SEx.mk _ (by first | exact CheckReceiver_pure r | exact CheckSignal_pure s | exact within_pure _ _ _ | exact when_ord lo hi (by assumption) | exact when_nord lo hi (by assumption) | exact first5_pure _ _ _ _ _) ?_; conv => whnf)
    | (refine SEx.mk _ (by first | exact rfl | exact ⟨of_decide_eq_true rfl, rfl⟩) ?_; conv => whnf)
    | (refine SAll.mk (fun _ => ?_); conv => whnf)
    | (refine SAnd.mk ⟨by intro c hc; simp at hc; first | (subst hc; rfl) | ((repeat' (rcases hc with rfl | hc)) <;> first | rfl | (subst hc; rfl)), by (simp; first | done | omega), by (simp; first | done | omega)⟩ ?_; conv => whnf)
    | (refine SAnd.mk (by first | exact rfl | kernel_rfl | omega | decide | exact CheckReceiver_pure r | exact CheckSignal_pure s | exact within_pure _ _ _ | exact when_ord lo hi (by assumption) | exact when_nord lo hi (by assumption) | exact first5_pure _ _ _ _ _) ?_; conv => whnf)
    | fail)
  all_goals rename_i h0
  all_goals first
    | have h1 : ¬ lostE r s lo hi = 0 := by assumption
      exact ⟨PLe.of_eq (by unfold lostV; rw [if_neg h1]; rfl)⟩
    | have h1 : lostE r s lo hi = 0 := by assumption
      have h' := lostE_zero.1 h1
      conv => whnf
      repeat' (first
        | (refine codeK_sound good (mu := []) ?_; conv => whnf)
        | ((first | rw [wl0] | rw [wl1] | rw [wl2] | rw [wl3] | rw [wl4] | rw [wl5]); conv => whnf)
        | (refine SBool.mk (fun _ => ?_) (fun h => absurd (of_decide_eq_true rfl) h); conv => whnf)
        | (refine SBool.mk (fun h => absurd h (of_decide_eq_false rfl)) (fun _ => ?_); conv => whnf)
        | (refine SBool.mk (fun h => ?_) (fun h => ?_) <;> conv => whnf)
        | (refine SEx.mk _ (by first | exact lost1_pure r s lo h'.1 h'.2.1 h'.2.2.1 | exact lost1_pure r s hi h'.1 h'.2.1 h'.2.2.2.1 | exact spread_pure _ _) ?_; conv => whnf)
        | (refine SEx.mk _ (by first | exact rfl | exact ⟨of_decide_eq_true rfl, rfl⟩) ?_; conv => whnf)
        | (refine SAll.mk (fun _ => ?_); conv => whnf)
        | (refine SAnd.mk ⟨by intro c hc; simp at hc; first | (subst hc; rfl) | ((repeat' (rcases hc with rfl | hc)) <;> first | rfl | (subst hc; rfl)), by (simp; first | done | omega), by (simp; first | done | omega)⟩ ?_; conv => whnf)
        | (refine SAnd.mk (by first | exact rfl | kernel_rfl | omega | decide | exact lost1_pure r s lo h'.1 h'.2.1 h'.2.2.1 | exact lost1_pure r s hi h'.1 h'.2.1 h'.2.2.2.1 | exact spread_pure _ _) ?_; conv => whnf)
        | fail)
      exact ⟨PLe.of_eq (by unfold lostV; rw [if_pos h1, h1])⟩

def mixR (a b : Sg) (band : Int) : R := if capI a b band = 2 then low (dif a + dif b) (sq a.c + sq b.c) else if capI a b band = 0 then low (dif a) (sq a.c) else low (dif b) (sq b.c)
theorem capI_or (a b : Sg) (band : Int) : capI a b band = 0 ∨ capI a b band = 1 ∨ capI a b band = 2 := by
  unfold capI
  repeat' split
  all_goals simp
theorem Mixed_pure (a b : Sg) (band : Int) : APure C 48 [.agg (sc2 a b), I band] (.tup [.agg (rc (if twoE a b band = 0 then mixR a b band else R0)), I (twoE a b band)]) := by
  refine APure.of_body good [] (fn := Tryz.f48) (by kernel_rfl) (by kernel_rfl) rfl rfl (by kernel_rfl) rfl (by kernel_rfl) ?_
  conv => whnf
  repeat' (first
    | (refine codeK_sound good (mu := []) ?_; conv => whnf)
    | ((first | rw [wl0] | rw [wl1] | rw [wl2] | rw [wl3] | rw [wl4] | rw [wl5]); conv => whnf)
    | (refine SBool.mk (fun _ => ?_) (fun h => absurd (of_decide_eq_true rfl) h); conv => whnf)
    | (refine SBool.mk (fun h => absurd h (of_decide_eq_false rfl)) (fun _ => ?_); conv => whnf)
    | (refine SBool.mk (fun h => ?_) (fun h => ?_) <;> conv => whnf)
    | (refine SEx.mk _ (by first | exact checkTwo_pure a b band) ?_; conv => whnf)
    | (refine SEx.mk _ (by first | exact rfl | exact ⟨of_decide_eq_true rfl, rfl⟩) ?_; conv => whnf)
    | (refine SAll.mk (fun _ => ?_); conv => whnf)
    | (refine SAnd.mk ⟨by intro c hc; simp at hc; first | (subst hc; rfl) | ((repeat' (rcases hc with rfl | hc)) <;> first | rfl | (subst hc; rfl)), by (simp; first | done | omega), by (simp; first | done | omega)⟩ ?_; conv => whnf)
    | (refine SAnd.mk (by first | exact rfl | kernel_rfl | omega | decide | exact checkTwo_pure a b band) ?_; conv => whnf)
    | fail)
  · have h0 : twoE a b band = 0 := h
    have h' := twoE_zero.1 h0
    have ha := h'.1
    have hb := h'.2.1
    have fa := ha.fit.mono (n := 1000000) (by decide); have fb := hb.fit.mono (n := 1000000) (by decide)
    have a1 := sq_le ha.fit.c; have a2 := ha.sq_pos; have b1 := sq_le hb.fit.c; have b2 := hb.sq_pos
    have d1 := dif_bound ha.fit; have d2 := dif_bound hb.fit
    have e1 : wrapK IntKind.i64 (dif a + dif b) = dif a + dif b := w64 (by omega)
    have e2 : wrapK IntKind.i64 (sq a.c + sq b.c) = sq a.c + sq b.c := w64 (by omega)
    rw [if_pos h0, h0]
    have hc := captured_pure a b band h'.1 h'.2.1 ⟨by omega, by omega⟩
    unfold mixR
    rcases capI_or a b band with hk | hk | hk
    · rw [hk] at hc
      rw [hk]
      conv => whnf
      repeat' (first
        | (refine codeK_sound good (mu := []) ?_; conv => whnf)
        | ((first | rw [wl0] | rw [wl1] | rw [wl2] | rw [wl3] | rw [wl4] | rw [wl5]); conv => whnf)
        | (refine SBool.mk (fun _ => ?_) (fun h => absurd (of_decide_eq_true rfl) h); conv => whnf)
        | (refine SBool.mk (fun h => absurd h (of_decide_eq_false rfl)) (fun _ => ?_); conv => whnf)
        | (refine SBool.mk (fun h => ?_) (fun h => ?_) <;> conv => whnf)
        | (refine SEx.mk _ (by first | exact hc | exact needle_pure a ha) ?_; conv => whnf)
        | (refine SEx.mk _ (by first | exact rfl | exact ⟨of_decide_eq_true rfl, rfl⟩) ?_; conv => whnf)
        | (refine SAll.mk (fun _ => ?_); conv => whnf)
        | (refine SAnd.mk (by first | exact hc) ?_; conv => whnf)
        | (refine SAnd.mk ⟨by intro c hc; simp at hc; first | (subst hc; rfl) | ((repeat' (rcases hc with rfl | hc)) <;> first | rfl | (subst hc; rfl)), by (simp; first | done | omega), by (simp; first | done | omega)⟩ ?_; conv => whnf)
        | (refine SAnd.mk (by first | exact rfl | kernel_rfl | omega | decide | exact hc | exact needle_pure a ha) ?_; conv => whnf)
        | fail)
      exact ⟨PLe.refl _⟩
    · rw [hk] at hc
      rw [hk]
      conv => whnf
      repeat' (first
        | (refine codeK_sound good (mu := []) ?_; conv => whnf)
        | ((first | rw [wl0] | rw [wl1] | rw [wl2] | rw [wl3] | rw [wl4] | rw [wl5]); conv => whnf)
        | (refine SBool.mk (fun _ => ?_) (fun h => absurd (of_decide_eq_true rfl) h); conv => whnf)
        | (refine SBool.mk (fun h => absurd h (of_decide_eq_false rfl)) (fun _ => ?_); conv => whnf)
        | (refine SBool.mk (fun h => ?_) (fun h => ?_) <;> conv => whnf)
        | (refine SEx.mk _ (by first | exact hc | exact needle_pure b hb) ?_; conv => whnf)
        | (refine SEx.mk _ (by first | exact rfl | exact ⟨of_decide_eq_true rfl, rfl⟩) ?_; conv => whnf)
        | (refine SAll.mk (fun _ => ?_); conv => whnf)
        | (refine SAnd.mk (by first | exact hc) ?_; conv => whnf)
        | (refine SAnd.mk ⟨by intro c hc; simp at hc; first | (subst hc; rfl) | ((repeat' (rcases hc with rfl | hc)) <;> first | rfl | (subst hc; rfl)), by (simp; first | done | omega), by (simp; first | done | omega)⟩ ?_; conv => whnf)
        | (refine SAnd.mk (by first | exact rfl | kernel_rfl | omega | decide | exact hc | exact needle_pure b hb) ?_; conv => whnf)
        | fail)
      exact ⟨PLe.refl _⟩
    · rw [hk] at hc
      rw [hk]
      conv => whnf
      repeat' (first
        | (refine codeK_sound good (mu := []) ?_; conv => whnf)
        | ((first | rw [wl0] | rw [wl1] | rw [wl2] | rw [wl3] | rw [wl4] | rw [wl5]); conv => whnf)
        | (refine SBool.mk (fun _ => ?_) (fun h => absurd (of_decide_eq_true rfl) h); conv => whnf)
        | (refine SBool.mk (fun h => absurd h (of_decide_eq_false rfl)) (fun _ => ?_); conv => whnf)
        | (refine SBool.mk (fun h => ?_) (fun h => ?_) <;> conv => whnf)
        | (refine SEx.mk _ (by first | exact hc | exact difference_pure a fa | exact difference_pure b fb | exact square_fit a.c fa.c | exact square_fit b.c fb.c) ?_; conv => whnf)
        | (refine SEx.mk _ (by first | exact rfl | exact ⟨of_decide_eq_true rfl, rfl⟩) ?_; conv => whnf)
        | (refine SAll.mk (fun _ => ?_); conv => whnf)
        | (refine SAnd.mk (by first | exact hc) ?_; conv => whnf)
        | (refine SAnd.mk ⟨by intro c hc; simp at hc; first | (subst hc; rfl) | ((repeat' (rcases hc with rfl | hc)) <;> first | rfl | (subst hc; rfl)), by (simp; first | done | omega), by (simp; first | done | omega)⟩ ?_; conv => whnf)
        | (refine SAnd.mk (by first | exact rfl | kernel_rfl | omega | decide | exact hc | exact difference_pure a fa | exact difference_pure b fb | exact square_fit a.c fa.c | exact square_fit b.c fb.c) ?_; conv => whnf)
        | fail)
      rw [e1, e2]
      conv => whnf
      repeat' (first
        | (refine codeK_sound good (mu := []) ?_; conv => whnf)
        | ((first | rw [wl0] | rw [wl1] | rw [wl2] | rw [wl3] | rw [wl4] | rw [wl5]); conv => whnf)
        | (refine SBool.mk (fun _ => ?_) (fun h => absurd (of_decide_eq_true rfl) h); conv => whnf)
        | (refine SBool.mk (fun h => absurd h (of_decide_eq_false rfl)) (fun _ => ?_); conv => whnf)
        | (refine SBool.mk (fun h => ?_) (fun h => ?_) <;> conv => whnf)
        | (refine SEx.mk _ (by first | exact lowest_pure _ _ (by omega) (by omega) (by omega)) ?_; conv => whnf)
        | (refine SEx.mk _ (by first | exact rfl | exact ⟨of_decide_eq_true rfl, rfl⟩) ?_; conv => whnf)
        | (refine SAll.mk (fun _ => ?_); conv => whnf)
        | (refine SAnd.mk ⟨by intro c hc; simp at hc; first | (subst hc; rfl) | ((repeat' (rcases hc with rfl | hc)) <;> first | rfl | (subst hc; rfl)), by (simp; first | done | omega), by (simp; first | done | omega)⟩ ?_; conv => whnf)
        | (refine SAnd.mk (by first | exact rfl | kernel_rfl | omega | decide | exact lowest_pure _ _ (by omega) (by omega) (by omega)) ?_; conv => whnf)
        | fail)
      exact ⟨PLe.refl _⟩
  · have h0 : ¬ twoE a b band = 0 := h
    exact ⟨PLe.of_eq (by rw [if_neg h0]; rfl)⟩
def absI (n : Int) : Int := max n (0 - n)
def byI (s : Sg) (noise : Int) : Int := 2 * noise * (absI s.c.re + absI s.c.im)
def noisyE (r : Rx) (s : Sg) (n : Int) : Int := firstOf [rxE r, checkE s, within n 0 1000]
def noisyV (r : Rx) (s : Sg) (n : Int) : Iv := if noisyE r s n = 0 then ⟨min (shownI r (dif s - byI s n) (sq s.c)) (shownI r (dif s + byI s n) (sq s.c)), max (shownI r (dif s - byI s n) (sq s.c)) (shownI r (dif s + byI s n) (sq s.c))⟩ else ⟨0, 0⟩
theorem noisyE_zero {r : Rx} {s : Sg} {n : Int} : noisyE r s n = 0 ↔ RxOk r ∧ Ok s ∧ (0 ≤ n ∧ n ≤ 1000) := by
  unfold noisyE
  rw [firstOf_zero, firstOf_zero, firstOf_zero, rxE_zero, checkE_zero, within_zero]
  exact ⟨fun ⟨h1, h2, h3, _⟩ => ⟨h1, h2, h3⟩, fun ⟨h1, h2, h3⟩ => ⟨h1, h2, h3, rfl⟩⟩
theorem Noisy_pure (r : Rx) (s : Sg) (n : Int) : APure C 53 [.agg (xc r), .agg (sc s), I n] (.tup [.agg (ic (noisyV r s n)), I (noisyE r s n)]) := by
  refine APure.of_body good [] (fn := Tryz.f53) (by kernel_rfl) (by kernel_rfl) rfl rfl (by kernel_rfl) rfl (by kernel_rfl) ?_
  conv => whnf
  repeat' (first
    | (refine codeK_sound good (mu := []) ?_; conv => whnf)
    | ((first | rw [wl0] | rw [wl1] | rw [wl2] | rw [wl3] | rw [wl4] | rw [wl5]); conv => whnf)
    | (refine SBool.mk (fun _ => ?_) (fun h => absurd (of_decide_eq_true rfl) h); conv => whnf)
    | (refine SBool.mk (fun h => absurd h (of_decide_eq_false rfl)) (fun _ => ?_); conv => whnf)
    | (refine SBool.mk (fun h => ?_) (fun h => ?_) <;> conv => whnf)
    | (refine SEx.mk _ (by first | exact CheckReceiver_pure r | exact CheckSignal_pure s | exact within_pure _ _ _ | exact first3_pure _ _ _) ?_; conv => whnf)
    | (refine SEx.mk _ (by first | exact rfl | exact ⟨of_decide_eq_true rfl, rfl⟩) ?_; conv => whnf)
    | (refine SAll.mk (fun _ => ?_); conv => whnf)
    | (refine SAnd.mk ⟨by intro c hc; simp at hc; first | (subst hc; rfl) | ((repeat' (rcases hc with rfl | hc)) <;> first | rfl | (subst hc; rfl)), by (simp; first | done | omega), by (simp; first | done | omega)⟩ ?_; conv => whnf)
    | (refine SAnd.mk (by first | exact rfl | kernel_rfl | omega | decide | exact CheckReceiver_pure r | exact CheckSignal_pure s | exact within_pure _ _ _ | exact first3_pure _ _ _) ?_; conv => whnf)
    | fail)
  · have h0 : noisyE r s n = 0 := h
    have h' := noisyE_zero.1 h0
    have hv := h'.2.1
    have hr := h'.1
    have hn := h'.2.2
    have hf := hv.fit.mono (n := 1000000) (by decide)
    have b1 := dif_bound hv.fit; have b2 := sq_le hv.fit.c; have b3 := hv.sq_pos
    have f1 := hv.fit.c.re; have f2 := hv.fit.c.im
    have e1 : wrapK IntKind.i64 (0 - s.c.re) = 0 - s.c.re := w64 (by omega)
    have e2 : wrapK IntKind.i64 (0 - s.c.im) = 0 - s.c.im := w64 (by omega)
    have g1 : (absI s.c.re).natAbs ≤ 10000 := by unfold absI; omega
    have g2 : (absI s.c.im).natAbs ≤ 10000 := by unfold absI; omega
    have e3 : wrapK IntKind.i64 (absI s.c.re + absI s.c.im) = absI s.c.re + absI s.c.im := w64 (by omega)
    have e4 : wrapK IntKind.i64 (2 * n) = 2 * n := w64 (by omega)
    have p1 : (byI s n).natAbs ≤ 2000 * 20000 := by unfold byI; rw [Int.natAbs_mul]; exact Nat.mul_le_mul (by omega) (by omega)
    have e5 : wrapK IntKind.i64 (2 * n * (absI s.c.re + absI s.c.im)) = byI s n := w64 (by show (byI s n).natAbs ≤ _; omega)
    have e6 : wrapK IntKind.i64 (dif s - byI s n) = dif s - byI s n := w64 (by omega)
    have e7 : wrapK IntKind.i64 (dif s + byI s n) = dif s + byI s n := w64 (by omega)
    conv => whnf
    repeat' (first
      | (refine codeK_sound good (mu := []) ?_; conv => whnf)
      | ((first | rw [wl0] | rw [wl1] | rw [wl2] | rw [wl3] | rw [wl4] | rw [wl5]); conv => whnf)
      | (refine SBool.mk (fun _ => ?_) (fun h => absurd (of_decide_eq_true rfl) h); conv => whnf)
      | (refine SBool.mk (fun h => absurd h (of_decide_eq_false rfl)) (fun _ => ?_); conv => whnf)
      | (refine SBool.mk (fun h => ?_) (fun h => ?_) <;> conv => whnf)
      | (refine SEx.mk _ (by first | exact difference_pure s hf | exact square_fit s.c hf.c) ?_; conv => whnf)
      | (refine SEx.mk _ (by first | exact rfl | exact ⟨of_decide_eq_true rfl, rfl⟩) ?_; conv => whnf)
      | (refine SAll.mk (fun _ => ?_); conv => whnf)
      | (refine SAnd.mk ⟨by intro c hc; simp at hc; first | (subst hc; rfl) | ((repeat' (rcases hc with rfl | hc)) <;> first | rfl | (subst hc; rfl)), by (simp; first | done | omega), by (simp; first | done | omega)⟩ ?_; conv => whnf)
      | (refine SAnd.mk (by first | exact rfl | kernel_rfl | omega | decide | exact difference_pure s hf | exact square_fit s.c hf.c) ?_; conv => whnf)
      | fail)
    rw [e1, e2, show max s.c.re (0 - s.c.re) = absI s.c.re from rfl, show max s.c.im (0 - s.c.im) = absI s.c.im from rfl, e3, e4, e5, e6]
    conv => whnf
    repeat' (first
      | (refine codeK_sound good (mu := []) ?_; conv => whnf)
      | ((first | rw [wl0] | rw [wl1] | rw [wl2] | rw [wl3] | rw [wl4] | rw [wl5]); conv => whnf)
      | (refine SBool.mk (fun _ => ?_) (fun h => absurd (of_decide_eq_true rfl) h); conv => whnf)
      | (refine SBool.mk (fun h => absurd h (of_decide_eq_false rfl)) (fun _ => ?_); conv => whnf)
      | (refine SBool.mk (fun h => ?_) (fun h => ?_) <;> conv => whnf)
      | (refine SEx.mk _ (by first | exact shown_pure r hr _ _ (by omega) (by omega) (by omega) | exact difference_pure s hf | exact square_fit s.c hf.c) ?_; conv => whnf)
      | (refine SEx.mk _ (by first | exact rfl | exact ⟨of_decide_eq_true rfl, rfl⟩) ?_; conv => whnf)
      | (refine SAll.mk (fun _ => ?_); conv => whnf)
      | (refine SAnd.mk ⟨by intro c hc; simp at hc; first | (subst hc; rfl) | ((repeat' (rcases hc with rfl | hc)) <;> first | rfl | (subst hc; rfl)), by (simp; first | done | omega), by (simp; first | done | omega)⟩ ?_; conv => whnf)
      | (refine SAnd.mk (by first | exact rfl | kernel_rfl | omega | decide | exact shown_pure r hr _ _ (by omega) (by omega) (by omega) | exact difference_pure s hf | exact square_fit s.c hf.c) ?_; conv => whnf)
      | fail)
    rw [e7]
    conv => whnf
    repeat' (first
      | (refine codeK_sound good (mu := []) ?_; conv => whnf)
      | ((first | rw [wl0] | rw [wl1] | rw [wl2] | rw [wl3] | rw [wl4] | rw [wl5]); conv => whnf)
      | (refine SBool.mk (fun _ => ?_) (fun h => absurd (of_decide_eq_true rfl) h); conv => whnf)
      | (refine SBool.mk (fun h => absurd h (of_decide_eq_false rfl)) (fun _ => ?_); conv => whnf)
      | (refine SBool.mk (fun h => ?_) (fun h => ?_) <;> conv => whnf)
      | (refine SEx.mk _ (by first | exact shown_pure r hr _ _ (by omega) (by omega) (by omega) | exact spread_pure _ _) ?_; conv => whnf)
      | (refine SEx.mk _ (by first | exact rfl | exact ⟨of_decide_eq_true rfl, rfl⟩) ?_; conv => whnf)
      | (refine SAll.mk (fun _ => ?_); conv => whnf)
      | (refine SAnd.mk ⟨by intro c hc; simp at hc; first | (subst hc; rfl) | ((repeat' (rcases hc with rfl | hc)) <;> first | rfl | (subst hc; rfl)), by (simp; first | done | omega), by (simp; first | done | omega)⟩ ?_; conv => whnf)
      | (refine SAnd.mk (by first | exact rfl | kernel_rfl | omega | decide | exact shown_pure r hr _ _ (by omega) (by omega) (by omega) | exact spread_pure _ _) ?_; conv => whnf)
      | fail)
    exact ⟨PLe.of_eq (by unfold noisyV; rw [if_pos h0, h0])⟩
  · have h0 : ¬ noisyE r s n = 0 := h
    exact ⟨PLe.of_eq (by unfold noisyV; rw [if_neg h0]; rfl)⟩
end Go.Proofs.Ab.Tone
end
section
/- The needle with a lag. -/
set_option maxRecDepth 100000
set_option linter.unusedVariables false
set_option linter.unusedSimpArgs false
namespace Go.Proofs.Ab.Tone
open Go Go.RowKit Go.Proofs.Ab
def stepN (r : Rx) (lag n : Int) (s : Sg) : Int := if flagB r s = bNone then n + (toldI r s - n) / lag else n
def needleAt (r : Rx) (lag start : Int) (xs : List Sg) (k : Nat) : Int := (xs.take k).foldl (stepN r lag) start
theorem needleAt_succ {r : Rx} {lag start : Int} {xs : List Sg} {k : Nat} (h : k < xs.length) : needleAt r lag start xs (k + 1) = stepN r lag (needleAt r lag start xs k) xs[k] := by
  unfold needleAt
  rw [List.take_succ_eq_append_getElem h, List.foldl_append]
  rfl
def followL (r : Rx) (lag start : Int) (xs : List Sg) (k : Nat) : List Int := (List.range k).map fun j => needleAt r lag start xs (j + 1)
def followE (r : Rx) (lag start : Int) (xs : List Sg) : Int := firstOf [rxE r, within lag 1 16, within start (0 - r.full) r.full, checkL xs]
def cells1 (xs : List Int) : List (List PV) := xs.map fun x => [I x]
theorem toldI_bound {r : Rx} (hr : RxOk r) (s : Sg) : -1000 ≤ toldI r s ∧ toldI r s ≤ 1000 := by
  have hf := hr.f
  unfold toldI shownI
  split <;> omega
theorem step_bound {t n lag : Int} (hl : 1 ≤ lag) (ht : -1000 ≤ t ∧ t ≤ 1000) (hn : -1000 ≤ n ∧ n ≤ 1000) : -1000 ≤ n + (t - n) / lag ∧ n + (t - n) / lag ≤ 1000 := by
  rcases Int.le_total n t with h | h
  · have h1 : 0 ≤ (t - n) / lag := Int.ediv_nonneg (by omega) (by omega)
    have h2 : (t - n) / lag ≤ t - n := Int.ediv_le_self _ (by omega)
    omega
  · have h1 : (t - n) / lag ≤ 0 := by
      have := Int.ediv_le_ediv (c := lag) (by omega) (show t - n ≤ 0 by omega)
      simpa using this
    have h2 : t - n ≤ (t - n) / lag := by
      refine (Int.le_ediv_iff_mul_le (by omega)).2 ?_
      have : (n - t) * 1 ≤ (n - t) * lag := Int.mul_le_mul_of_nonneg_left hl (by omega)
      have e : (t - n) * lag = -((n - t) * lag) := by rw [← Int.neg_mul]; congr 1; omega
      omega
    omega
theorem needle_bound {r : Rx} (hr : RxOk r) {lag start : Int} (hl : 1 ≤ lag) (hs : -1000 ≤ start ∧ start ≤ 1000) {xs : List Sg} : ∀ k, k ≤ xs.length → -1000 ≤ needleAt r lag start xs k ∧ needleAt r lag start xs k ≤ 1000
  | 0, _ => by simpa [needleAt] using hs
  | k + 1, hk => by
    have ih := needle_bound hr hl hs (xs := xs) k (by omega)
    rw [needleAt_succ (by omega)]
    unfold stepN
    split
    · exact step_bound hl (toldI_bound hr _) ih
    · exact ih
theorem followL_succ (r : Rx) (lag start : Int) (xs : List Sg) (k : Nat) : cells1 (followL r lag start xs (k + 1)) = cells1 (followL r lag start xs k) ++ [[I (needleAt r lag start xs (k + 1))]] := by
  simp [cells1, followL, List.range_succ]
theorem firstOf_checks {xs : List Sg} : firstOf (xs.map checkE) = 0 ↔ ∀ s ∈ xs, Ok s := by
  induction xs with
  | nil => simp [firstOf]
  | cons x xs ih =>
    rw [List.map_cons, firstOf_zero, ih, checkE_zero]
    simp
theorem checkL_zero {xs : List Sg} : checkL xs = 0 ↔ (xs ≠ [] ∧ xs.length ≤ 256) ∧ ∀ s ∈ xs, Ok s := by
  unfold checkL
  rw [firstOf_zero, firstOf_zero, firstOf_checks]
  have : sizedE xs.length 256 = 0 ↔ xs ≠ [] ∧ xs.length ≤ 256 := by
    unfold sizedE
    cases xs with
    | nil => simp
    | cons x xs =>
      simp only [List.length_cons]
      split
      · rename_i h; omega
      · split
        · rename_i h; simp; omega
        · rename_i h; simp; omega
  rw [this]
  exact ⟨fun ⟨h1, h2, _⟩ => ⟨h1, h2⟩, fun ⟨h1, h2⟩ => ⟨h1, h2, rfl⟩⟩
theorem followE_zero {r : Rx} {lag start : Int} {xs : List Sg} : followE r lag start xs = 0 ↔ RxOk r ∧ (1 ≤ lag ∧ lag ≤ 16) ∧ (0 - r.full ≤ start ∧ start ≤ r.full) ∧ checkL xs = 0 := by
  unfold followE
  rw [firstOf_zero, firstOf_zero, firstOf_zero, firstOf_zero, rxE_zero, within_zero, within_zero]
  exact ⟨fun ⟨h1, h2, h3, h4, _⟩ => ⟨h1, h2, h3, h4⟩, fun ⟨h1, h2, h3, h4⟩ => ⟨h1, h2, h3, h4, rfl⟩⟩
def followV (r : Rx) (lag start : Int) (xs : List Sg) : PV := if followE r lag start xs = 0 then .seq 1 (cells1 (followL r lag start xs xs.length)) else nilS
theorem Followed_pure (r : Rx) (hf : r.full.natAbs ≤ 4000000000000000000) (lag start : Int) (xs : List Sg) (hl : xs.length ≤ 1000000) :
    APure C 41 [.agg (xc r), I lag, I start, .seq 6 (xs.map sc)] (.tup [followV r lag start xs, I (followE r lag start xs)]) := by
  have e1 : wrapK IntKind.i64 (0 - r.full) = 0 - r.full := w64 (by omega)
  refine APure.of_body good [32, 33] (fn := Tryz.f41) (by kernel_rfl) (by kernel_rfl) rfl rfl (by kernel_rfl) rfl (by kernel_rfl) ?_
  conv => whnf
  repeat' (first
    | (refine codeK_sound good (mu := [32, 33]) ?_; conv => whnf)
    | ((first | rw [wl0] | rw [wl1] | rw [wl2] | rw [wl3] | rw [wl4] | rw [wl5]); conv => whnf)
    | (refine SBool.mk (fun _ => ?_) (fun h => absurd (of_decide_eq_true rfl) h); conv => whnf)
    | (refine SBool.mk (fun h => absurd h (of_decide_eq_false rfl)) (fun _ => ?_); conv => whnf)
    | (refine SBool.mk (fun h => ?_) (fun h => ?_) <;> conv => whnf)
    | (refine SEx.mk _ (by first | exact CheckReceiver_pure r | exact within_pure _ _ _ | exact checkSignals_pure xs hl) ?_; conv => whnf)
    | (refine SEx.mk _ (by first | exact rfl | exact ⟨of_decide_eq_true rfl, rfl⟩) ?_; conv => whnf)
    | (refine SAll.mk (fun _ => ?_); conv => whnf)
    | (refine SAnd.mk ⟨by intro c hc; simp at hc; first | (subst hc; rfl) | ((repeat' (rcases hc with rfl | hc)) <;> first | rfl | (subst hc; rfl)), by (simp; first | done | omega), by (simp; first | done | omega)⟩ ?_; conv => whnf)
    | (refine SAnd.mk (by first | exact rfl | kernel_rfl | omega | decide | exact CheckReceiver_pure r | exact within_pure _ _ _ | exact checkSignals_pure xs hl) ?_; conv => whnf)
    | fail)
  rw [e1]
  conv => whnf
  repeat' (first
    | (refine codeK_sound good (mu := [32, 33]) ?_; conv => whnf)
    | ((first | rw [wl0] | rw [wl1] | rw [wl2] | rw [wl3] | rw [wl4] | rw [wl5]); conv => whnf)
    | (refine SBool.mk (fun _ => ?_) (fun h => absurd (of_decide_eq_true rfl) h); conv => whnf)
    | (refine SBool.mk (fun h => absurd h (of_decide_eq_false rfl)) (fun _ => ?_); conv => whnf)
    | (refine SBool.mk (fun h => ?_) (fun h => ?_) <;> conv => whnf)
    | (refine SEx.mk _ (by first | exact first4_pure _ _ _ _ | exact within_pure _ _ _ | exact checkSignals_pure xs hl) ?_; conv => whnf)
    | (refine SEx.mk _ (by first | exact rfl | exact ⟨of_decide_eq_true rfl, rfl⟩) ?_; conv => whnf)
    | (refine SAll.mk (fun _ => ?_); conv => whnf)
    | (refine SAnd.mk ⟨by intro c hc; simp at hc; first | (subst hc; rfl) | ((repeat' (rcases hc with rfl | hc)) <;> first | rfl | (subst hc; rfl)), by (simp; first | done | omega), by (simp; first | done | omega)⟩ ?_; conv => whnf)
    | (refine SAnd.mk (by first | exact rfl | kernel_rfl | omega | decide | exact first4_pure _ _ _ _ | exact within_pure _ _ _ | exact checkSignals_pure xs hl) ?_; conv => whnf)
    | fail)
  · have h0 : followE r lag start xs = 0 := h
    obtain ⟨hr, hlag, hst, hcl⟩ := followE_zero.1 h0
    have hx := (checkL_zero.1 hcl).2
    have hfr := hr.f
    have hs : -1000 ≤ start ∧ start ≤ 1000 := by omega
    refine ACall.inline good [] (fn := Tryz.f117) (by kernel_rfl) (by kernel_rfl) rfl rfl (by kernel_rfl) rfl (by kernel_rfl) ?_
    conv => whnf
    refine ⟨AWp.loop (ι := { k : Nat // k ≤ xs.length }) (fun k => ⟨[(10, .p (I k.1)), (9, .p (I xs.length)), (8, .p (.seq 6 (xs.map sc))), (5, .own 1), (1, .clo 118 [.p (.ref (xc r)), .box 0 0, .p (.ref [I lag])])], [(0, (3, [I (needleAt r lag start xs k.1)]))], [(1, (3, 1, cells1 (followL r lag start xs k.1)))], 2, [], [], []⟩) (fun k => xs.length - k.1) ⟨0, by simp⟩ ?_ ?_⟩
    · refine SLe.row 5 3 1 ?_
      conv => whnf
      refine SLe.of [(0, 12)] [(1, 13)] rfl rfl ?_
      conv => whnf
      refine SAnd.mk (PLe.refl _) ?_
      conv => whnf
      refine SAnd.mk (PLe.of_eq (by simp)) ?_
      conv => whnf
      refine SAnd.mk (PLe.refl _) ?_
      conv => whnf
      refine SAnd.mk (PLe.refl _) ?_
      conv => whnf
      refine SAnd.mk (PLe.refl _) ?_
      conv => whnf
      refine SAnd.mk (PLeL.refl _) ?_
      conv => whnf
      refine SAnd.mk rfl ?_
      exact True.intro
    · rintro ⟨k, hk⟩
      refine codeK_sound good (mu := []) ?_
      conv => whnf
      refine SBool.mk (fun hc => ?_) (fun hc => ?_)
      · conv => whnf
        have hkl : k < xs.length := by simpa using hc
        have hnb := needle_bound hr hlag.1 hs (xs := xs) k hk
        have htb := toldI_bound hr xs[k]
        have hsb := step_bound hlag.1 htb hnb
        have w1 : wrapK IntKind.i64 (toldI r xs[k] - needleAt r lag start xs k) = toldI r xs[k] - needleAt r lag start xs k := w64 (by omega)
        have w2 : wrapK IntKind.i64 (needleAt r lag start xs k + (toldI r xs[k] - needleAt r lag start xs k) / lag) = needleAt r lag start xs k + (toldI r xs[k] - needleAt r lag start xs k) / lag := w64 (by omega)
        refine SEx.mk (sc xs[k]) (by simp [hkl]) ?_
        conv => whnf
        refine ACall.inline good [] (fn := Tryz.f118) (by kernel_rfl) (by kernel_rfl) rfl rfl (by kernel_rfl) rfl (by kernel_rfl) ?_
        conv => whnf
        repeat' (first
          | (refine codeK_sound good (mu := []) ?_; conv => whnf)
          | ((first | rw [wl0] | rw [wl1] | rw [wl2] | rw [wl3] | rw [wl4] | rw [wl5]); conv => whnf)
          | (refine SBool.mk (fun _ => ?_) (fun h => absurd (of_decide_eq_true rfl) h); conv => whnf)
          | (refine SBool.mk (fun h => absurd h (of_decide_eq_false rfl)) (fun _ => ?_); conv => whnf)
          | (refine SBool.mk (fun h => ?_) (fun h => ?_) <;> conv => whnf)
          | (refine SEx.mk _ (by first | exact told_pure r xs[k] hr (hx _ (List.getElem_mem hkl)) | exact eql_string _ _ _) ?_; conv => whnf)
          | (refine SEx.mk _ (by first | exact rfl | exact ⟨of_decide_eq_true rfl, rfl⟩) ?_; conv => whnf)
          | (refine SAll.mk (fun _ => ?_); conv => whnf)
          | (refine SAnd.mk ⟨by intro c hc; simp at hc; first | (subst hc; rfl) | ((repeat' (rcases hc with rfl | hc)) <;> first | rfl | (subst hc; rfl)), by (simp; first | done | omega), by (simp; first | done | omega)⟩ ?_; conv => whnf)
          | (refine SAnd.mk (by first | exact rfl | kernel_rfl | omega | decide | exact told_pure r xs[k] hr (hx _ (List.getElem_mem hkl)) | exact eql_string _ _ _) ?_; conv => whnf)
          | fail)
        · have hz : flagB r xs[k] = bNone := of_decide_eq_true h
          have hstep : stepN r lag (needleAt r lag start xs k) xs[k] = needleAt r lag start xs k + (toldI r xs[k] - needleAt r lag start xs k) / lag := by unfold stepN; rw [if_pos hz]
          rw [w1]
          conv => whnf
          repeat' (first
            | (refine codeK_sound good (mu := []) ?_; conv => whnf)
            | ((first | rw [wl0] | rw [wl1] | rw [wl2] | rw [wl3] | rw [wl4] | rw [wl5]); conv => whnf)
            | (refine SBool.mk (fun _ => ?_) (fun h => absurd (of_decide_eq_true rfl) h); conv => whnf)
            | (refine SBool.mk (fun h => absurd h (of_decide_eq_false rfl)) (fun _ => ?_); conv => whnf)
            | (refine SBool.mk (fun h => ?_) (fun h => ?_) <;> conv => whnf)
            | (refine SEx.mk _ (by first | exact floor_pure _ _ (by omega) (by omega)) ?_; conv => whnf)
            | (refine SEx.mk _ (by first | exact rfl | exact ⟨of_decide_eq_true rfl, rfl⟩) ?_; conv => whnf)
            | (refine SAll.mk (fun _ => ?_); conv => whnf)
            | (refine SAnd.mk ⟨by intro c hc; simp at hc; first | (subst hc; rfl) | ((repeat' (rcases hc with rfl | hc)) <;> first | rfl | (subst hc; rfl)), by (simp; first | done | omega), by (simp; first | done | omega)⟩ ?_; conv => whnf)
            | (refine SAnd.mk (by first | exact rfl | kernel_rfl | omega | decide | exact floor_pure _ _ (by omega) (by omega)) ?_; conv => whnf)
            | fail)
          rw [w2]
          refine SAnd.mk ⟨by intro c hc; simp at hc; subst hc; rfl, by simp [cells1, followL]; omega, by simp [cells1, followL]; omega⟩ ?_
          conv => whnf
          refine ⟨⟨k + 1, by omega⟩, by simp only; omega, ?_⟩
          refine SLe.of [(0, 0)] [(1, 9)] rfl rfl ?_
          conv => whnf
          refine SAnd.mk (PLe.of_eq (by simp only [wrapK]; rw [wrap_id (by omega) (by omega)]; simp)) ?_
          conv => whnf
          refine SAnd.mk (PLe.refl _) ?_
          conv => whnf
          refine SAnd.mk (PLe.refl _) ?_
          conv => whnf
          refine SAnd.mk (PLe.refl _) ?_
          conv => whnf
          refine SAnd.mk (PLe.refl _) ?_
          conv => whnf
          refine SAnd.mk (by rw [needleAt_succ hkl, hstep]; exact PLeL.refl _) ?_
          conv => whnf
          refine SAnd.mk (by rw [followL_succ, needleAt_succ hkl, hstep]) ?_
          exact True.intro
        · have hz : ¬ flagB r xs[k] = bNone := of_decide_eq_false (by simpa using h)
          have hstep : stepN r lag (needleAt r lag start xs k) xs[k] = needleAt r lag start xs k := by unfold stepN; rw [if_neg hz]
          refine SAnd.mk ⟨by intro c hc; simp at hc; subst hc; rfl, by simp [cells1, followL]; omega, by simp [cells1, followL]; omega⟩ ?_
          conv => whnf
          refine ⟨⟨k + 1, by omega⟩, by simp only; omega, ?_⟩
          refine SLe.of [(0, 0)] [(1, 3)] rfl rfl ?_
          conv => whnf
          refine SAnd.mk (PLe.of_eq (by simp only [wrapK]; rw [wrap_id (by omega) (by omega)]; simp)) ?_
          conv => whnf
          refine SAnd.mk (PLe.refl _) ?_
          conv => whnf
          refine SAnd.mk (PLe.refl _) ?_
          conv => whnf
          refine SAnd.mk (PLe.refl _) ?_
          conv => whnf
          refine SAnd.mk (PLe.refl _) ?_
          conv => whnf
          refine SAnd.mk (by rw [needleAt_succ hkl, hstep]; exact PLeL.refl _) ?_
          conv => whnf
          refine SAnd.mk (by rw [followL_succ, needleAt_succ hkl, hstep]) ?_
          exact True.intro
      · conv => whnf
        have : k = xs.length := by simp at hc; omega
        subst this
        exact ⟨PLe.of_eq (by unfold followV; rw [if_pos h0, h0])⟩
  · have h0 : ¬ followE r lag start xs = 0 := h
    exact ⟨PLe.of_eq (by unfold followV; rw [if_neg h0]; rfl)⟩
end Go.Proofs.Ab.Tone
end
section
/- More of floating point on integers: the order, the sign, the other kind; and 32 bits. -/
set_option linter.unusedVariables false
set_option linter.unusedSimpArgs false
namespace Go.Proofs.Ab
open Go Ieee
theorem compare_scale {a b a' b' P Q : Int} (hP : 0 < P) (hQ : 0 < Q) (h1 : a' * P = a * Q) (h2 : b' * P = b * Q) : compare a' b' = compare a b := by
  have lt : a' < b' ↔ a < b := by
    rw [← Int.mul_lt_mul_right hP, h1, h2, Int.mul_lt_mul_right hQ]
  have eq : a' = b' ↔ a = b := by
    constructor
    · intro e
      subst e
      exact Int.eq_of_mul_eq_mul_right (Int.ne_of_gt hQ) (h1.symm.trans h2)
    · intro e
      subst e
      exact Int.eq_of_mul_eq_mul_right (Int.ne_of_gt hP) (h1.trans h2.symm)
  simp only [compare, compareOfLessAndEq, lt, eq]
theorem DVal.order {d e : Datum} {a b : Int} (ha : DVal d a) (hb : DVal e b) : d.order e = some (compare a b) := by
  obtain ⟨s, m, i, rfl⟩ := ha.number
  obtain ⟨t, n, j, rfl⟩ := hb.number
  have hBA := ha.all (-(min i j)).toNat (by omega)
  have hBB := hb.all (-(min i j)).toNat (by omega)
  generalize hB : (-(min i j)).toNat = B at *
  have e1 : (i + (B : Int)).toNat = (i - min i j).toNat + (min i j + (B : Int)).toNat := by omega
  have e2 : (j + (B : Int)).toNat = (j - min i j).toNat + (min i j + (B : Int)).toNat := by omega
  have k1 : signed s m (i - min i j).toNat * 2 ^ (min i j + (B : Int)).toNat = a * 2 ^ B := by
    rw [← hBA, e1, signed_eq, signed_eq, Int.pow_add]; simp [Int.mul_assoc]
  have k2 : signed t n (j - min i j).toNat * 2 ^ (min i j + (B : Int)).toNat = b * 2 ^ B := by
    rw [← hBB, e2, signed_eq, signed_eq, Int.pow_add]; simp [Int.mul_assoc]
  show some (compare _ _) = _
  rw [compare_scale (Int.pow_pos (by decide)) (Int.pow_pos (by decide)) k1 k2]
theorem FInt.order {k : FloatKind} {x y : Nat} {a b : Int} (hx : FInt k x a) (hy : FInt k y b) : k.format.order x y = some (compare a b) := DVal.order hx hy
theorem FInt.neg {k : FloatKind} {x : Nat} {n : Int} (hx : FInt k x n) : FInt k (Op.negFloat k x) (-n) := by
  have hr : ∀ f : Format, f.read (x ^^^ 2 ^ (f.exponentBits + f.fractionBits)) = (f.read x).opposite := by
    intro f
    have h1 : (x ^^^ 2 ^ (f.exponentBits + f.fractionBits)) % 2 ^ (f.exponentBits + f.fractionBits) = x % 2 ^ (f.exponentBits + f.fractionBits) := by
      rw [Nat.xor_mod_two_pow]; simp
    have h2 : ((x ^^^ 2 ^ (f.exponentBits + f.fractionBits)) / 2 ^ (f.exponentBits + f.fractionBits) % 2 == 1) = !(x / 2 ^ (f.exponentBits + f.fractionBits) % 2 == 1) := by
      rw [Nat.xor_div_two_pow, Nat.div_self (Nat.pow_pos (by decide))]
      have := Nat.xor_mod_two_pow (a := x / 2 ^ (f.exponentBits + f.fractionBits)) (b := 1) (n := 1)
      simp only [Nat.pow_one] at this
      rw [this]
      rcases Nat.mod_two_eq_zero_or_one (x / 2 ^ (f.exponentBits + f.fractionBits)) with h | h <;> rw [h] <;> rfl
    unfold Format.read Format.signWeight
    simp only [h1, h2]
    repeat' split
    all_goals rfl
  have := DVal.opposite hx
  cases k
  · show DVal (single.read (x ^^^ 2 ^ (single.exponentBits + single.fractionBits))) (-n)
    rw [hr single]
    exact this
  · show DVal (double.read (x ^^^ 2 ^ (double.exponentBits + double.fractionBits))) (-n)
    rw [hr double]
    exact this
theorem FInt.ofInt32 {n : Int} (h : n.natAbs < 2 ^ 24) : FInt .f32 (floatOfInt .f32 n) n := (nearest_read fmt_single (DVal.ofInt n) h).1
theorem FInt.write32 {d : Datum} {n : Int} (h : DVal d n) (hn : n.natAbs < 2 ^ 24) : DVal (single.read (single.write d)) n := by
  obtain ⟨s, m, p, rfl⟩ := h.number
  exact (nearest_read fmt_single h hn).1
theorem FInt.add32 {x y : Nat} {a b : Int} (hx : FInt .f32 x a) (hy : FInt .f32 y b) (h : (a + b).natAbs < 2 ^ 24) : ∃ r, floatBits .add .f32 x y = some r ∧ FInt .f32 r (a + b) := by
  obtain ⟨r, h1, h2⟩ := DVal.sum hx hy
  refine ⟨single.write r, ?_, FInt.write32 h2 h⟩
  have h1 : (single.read x).sum (single.read y) = some r := h1
  show single.add x y = some _
  unfold Format.add
  rw [h1]
  rfl
theorem FInt.sub32 {x y : Nat} {a b : Int} (hx : FInt .f32 x a) (hy : FInt .f32 y b) (h : (a - b).natAbs < 2 ^ 24) : ∃ r, floatBits .sub .f32 x y = some r ∧ FInt .f32 r (a - b) := by
  obtain ⟨r, h1, h2⟩ := DVal.sum hx (DVal.opposite hy)
  rw [← Int.sub_eq_add_neg] at h2
  refine ⟨single.write r, ?_, FInt.write32 h2 h⟩
  have h1 : (single.read x).sum (single.read y).opposite = some r := h1
  show single.sub x y = some _
  unfold Format.sub
  rw [h1]
  rfl
/-- The same number in 64 bits. -/
theorem FInt.wide {x : Nat} {n : Int} (hx : FInt .f32 x n) (h : n.natAbs < 2 ^ 53) : ∃ r, floatToFloatBits .f32 x .f64 = some r ∧ FInt .f64 r n := by
  have hx' := hx
  obtain ⟨s, m, p, e, _⟩ := hx
  have e : FloatKind.f32.decode x = .number s m p := e
  have hv : DVal (.number s m p) n := e ▸ hx'
  refine ⟨double.write (.number s m p), ?_, FInt.write hv h⟩
  unfold floatToFloatBits
  rw [if_neg (by decide), e]
  have hw := FInt.write hv h
  have : (FloatKind.f64.decode (FloatKind.f64.encode (.number s m p))).isInfinity = false := by
    obtain ⟨s', m', p', e', _⟩ := hw
    have e' : FloatKind.f64.decode (FloatKind.f64.encode (.number s m p)) = .number s' m' p' := e'
    rw [e']
    rfl
  simp only [this]
  rfl
end Go.Proofs.Ab
end
section
/- Samples. -/
set_option maxRecDepth 100000
set_option linter.unusedVariables false
set_option linter.unusedSimpArgs false
namespace Go.Proofs.Ab.Tone
open Go Go.RowKit Go.Proofs.Ab
abbrev cf (a : G) : PV := .v (.complex .f32 (floatOfInt .f32 a.re) (floatOfInt .f32 a.im))
theorem sample_pure (a : G) : APure C 146 [.agg (gc a)] (cf a) := by
  refine APure.of_body good [] (fn := Tryz.f146) (by kernel_rfl) (by kernel_rfl) rfl rfl (by kernel_rfl) rfl (by kernel_rfl) ?_
  conv => whnf
  refine SEx.mk _ (fun w => run_convert_int_float w 3 125 .i64 .f32 a.re (by kernel_rfl) (by kernel_rfl)) ?_
  conv => whnf
  refine SEx.mk _ (fun w => run_convert_int_float w 3 125 .i64 .f32 a.im (by kernel_rfl) (by kernel_rfl)) ?_
  conv => whnf
  exact ⟨PLe.refl _⟩
def smp (s : Sg) (σ τ : Int) : G := (s.c.add (s.l.mul ⟨σ, 0⟩)).add (s.h.mul ⟨τ, 0⟩)
theorem mul_fit {a : G} {m : Nat} (h : a.Fit m) {σ : Int} (hs : σ = 1 ∨ σ = -1) : (a.mul ⟨σ, 0⟩).Fit m := by
  have e1 := h.re; have e2 := h.im
  rcases hs with rfl | rfl <;> constructor <;> simp only [G.mul] <;> omega
abbrev zc : PV := .v (.complex .f32 0 0)
def sampledV (s : Sg) : List PV := if checkE s = 0 then [cf (smp s 1 1), cf (smp s 1 (-1)), cf (smp s (-1) 1), cf (smp s (-1) (-1))] else [zc, zc, zc, zc]
theorem quo_ne {n : Int} (h : n ≠ 0) : n ≠ 0 := h
structure Dv where
  q : G
  ok : Bool
def divG (a : G) (n : Int) : G := ⟨wrap64 (a.re.tdiv n), wrap64 (a.im.tdiv n)⟩
def divB (a : G) (n : Int) : Bool := decide (a.re.tmod n = 0) && decide (a.im.tmod n = 0)
theorem divided_pure (a : G) (n : Int) (hn : n ≠ 0) : APure C 154 [.agg (gc a), I n] (.tup [.agg (gc (divG a n)), Bo (divB a n)]) := by
  refine APure.of_body good [] (fn := Tryz.f154) (by kernel_rfl) (by kernel_rfl) rfl rfl (by kernel_rfl) rfl (by kernel_rfl) ?_
  conv => whnf
  repeat' (first
    | (refine codeK_sound good (mu := []) ?_; conv => whnf)
    | ((first | rw [wl0] | rw [wl1] | rw [wl2] | rw [wl3] | rw [wl4] | rw [wl5]); conv => whnf)
    | (refine SBool.mk (fun _ => ?_) (fun h => absurd (of_decide_eq_true rfl) h); conv => whnf)
    | (refine SBool.mk (fun h => absurd h (of_decide_eq_false rfl)) (fun _ => ?_); conv => whnf)
    | (refine SBool.mk (fun h => ?_) (fun h => ?_) <;> conv => whnf)
    | (refine SEx.mk _ (by first | exact rfl | exact ⟨of_decide_eq_true rfl, rfl⟩) ?_; conv => whnf)
    | (refine SAll.mk (fun _ => ?_); conv => whnf)
    | (refine SAnd.mk ⟨by intro c hc; simp at hc; first | (subst hc; rfl) | ((repeat' (rcases hc with rfl | hc)) <;> first | rfl | (subst hc; rfl)), by (simp; first | done | omega), by (simp; first | done | omega)⟩ ?_; conv => whnf)
    | (refine SAnd.mk (by first | exact rfl | kernel_rfl | omega | decide) ?_; conv => whnf)
    | fail)
  all_goals exact ⟨PLe.of_eq (by unfold divG divB; simp [*, gc, wrapK])⟩
end Go.Proofs.Ab.Tone
end
section
/- The reference's small functions. -/
set_option maxRecDepth 100000
set_option linter.unusedVariables false
set_option linter.unusedSimpArgs false
namespace Go.Proofs.Ab.Tone
open Go Go.RowKit Go.Proofs.Ab
theorem refWhen_pure (b : Bool) (n : Int) : APure C 92 [Bo b, I n] (I (if b then n else 0)) := by
  refine APure.of_body good [] (fn := Tryz.f92) (by kernel_rfl) (by kernel_rfl) rfl rfl (by kernel_rfl) rfl (by kernel_rfl) ?_
  cases b
  · conv => whnf
    exact ⟨PLe.refl _⟩
  · conv => whnf
    exact ⟨PLe.refl _⟩
theorem refPlus_pure (a b c d : Int) : APure C 75 [.agg [I a, I b], .agg [I c, I d]] (.agg [I (wrap64 (a + c)), I (wrap64 (b + d))]) := by
  refine APure.of_body good [] (fn := Tryz.f75) (by kernel_rfl) (by kernel_rfl) rfl rfl (by kernel_rfl) rfl (by kernel_rfl) ?_
  conv => whnf
  repeat' (first
    | (refine codeK_sound good (mu := []) ?_; conv => whnf)
    | ((first | rw [wl0] | rw [wl1] | rw [wl2] | rw [wl3] | rw [wl4] | rw [wl5]); conv => whnf)
    | (refine SBool.mk (fun _ => ?_) (fun h => absurd (of_decide_eq_true rfl) h); conv => whnf)
    | (refine SBool.mk (fun h => absurd h (of_decide_eq_false rfl)) (fun _ => ?_); conv => whnf)
    | (refine SBool.mk (fun h => ?_) (fun h => ?_) <;> conv => whnf)
    | (refine SEx.mk _ (by first | exact rfl | exact ⟨of_decide_eq_true rfl, rfl⟩) ?_; conv => whnf)
    | (refine SAll.mk (fun _ => ?_); conv => whnf)
    | (refine SAnd.mk ⟨by intro c hc; simp at hc; first | (subst hc; rfl) | ((repeat' (rcases hc with rfl | hc)) <;> first | rfl | (subst hc; rfl)), by (simp; first | done | omega), by (simp; first | done | omega)⟩ ?_; conv => whnf)
    | (refine SAnd.mk (by first | exact rfl | kernel_rfl | omega | decide) ?_; conv => whnf)
    | fail)
  exact ⟨PLe.refl _⟩
theorem refMinus_pure (a b c d : Int) : APure C 76 [.agg [I a, I b], .agg [I c, I d]] (.agg [I (wrap64 (a - c)), I (wrap64 (b - d))]) := by
  refine APure.of_body good [] (fn := Tryz.f76) (by kernel_rfl) (by kernel_rfl) rfl rfl (by kernel_rfl) rfl (by kernel_rfl) ?_
  conv => whnf
  repeat' (first
    | (refine codeK_sound good (mu := []) ?_; conv => whnf)
    | ((first | rw [wl0] | rw [wl1] | rw [wl2] | rw [wl3] | rw [wl4] | rw [wl5]); conv => whnf)
    | (refine SBool.mk (fun _ => ?_) (fun h => absurd (of_decide_eq_true rfl) h); conv => whnf)
    | (refine SBool.mk (fun h => absurd h (of_decide_eq_false rfl)) (fun _ => ?_); conv => whnf)
    | (refine SBool.mk (fun h => ?_) (fun h => ?_) <;> conv => whnf)
    | (refine SEx.mk _ (by first | exact rfl | exact ⟨of_decide_eq_true rfl, rfl⟩) ?_; conv => whnf)
    | (refine SAll.mk (fun _ => ?_); conv => whnf)
    | (refine SAnd.mk ⟨by intro c hc; simp at hc; first | (subst hc; rfl) | ((repeat' (rcases hc with rfl | hc)) <;> first | rfl | (subst hc; rfl)), by (simp; first | done | omega), by (simp; first | done | omega)⟩ ?_; conv => whnf)
    | (refine SAnd.mk (by first | exact rfl | kernel_rfl | omega | decide) ?_; conv => whnf)
    | fail)
  exact ⟨PLe.refl _⟩
theorem refSquare_pure (a b : Int) : APure C 94 [.agg [I a, I b]] (I (wrap64 (wrap64 (a * a) + wrap64 (b * b)))) := by
  refine APure.of_body good [] (fn := Tryz.f94) (by kernel_rfl) (by kernel_rfl) rfl rfl (by kernel_rfl) rfl (by kernel_rfl) ?_
  conv => whnf
  repeat' (first
    | (refine codeK_sound good (mu := []) ?_; conv => whnf)
    | ((first | rw [wl0] | rw [wl1] | rw [wl2] | rw [wl3] | rw [wl4] | rw [wl5]); conv => whnf)
    | (refine SBool.mk (fun _ => ?_) (fun h => absurd (of_decide_eq_true rfl) h); conv => whnf)
    | (refine SBool.mk (fun h => absurd h (of_decide_eq_false rfl)) (fun _ => ?_); conv => whnf)
    | (refine SBool.mk (fun h => ?_) (fun h => ?_) <;> conv => whnf)
    | (refine SEx.mk _ (by first | exact rfl | exact ⟨of_decide_eq_true rfl, rfl⟩) ?_; conv => whnf)
    | (refine SAll.mk (fun _ => ?_); conv => whnf)
    | (refine SAnd.mk ⟨by intro c hc; simp at hc; first | (subst hc; rfl) | ((repeat' (rcases hc with rfl | hc)) <;> first | rfl | (subst hc; rfl)), by (simp; first | done | omega), by (simp; first | done | omega)⟩ ?_; conv => whnf)
    | (refine SAnd.mk (by first | exact rfl | kernel_rfl | omega | decide) ?_; conv => whnf)
    | fail)
  exact ⟨PLe.refl _⟩
theorem refZero_pure (a b : Int) : APure C 93 [.agg [I a, I b]] (Bo (decide (a = 0 ∧ b = 0))) := by
  refine APure.of_body good [] (fn := Tryz.f93) (by kernel_rfl) (by kernel_rfl) rfl rfl (by kernel_rfl) rfl (by kernel_rfl) ?_
  conv => whnf
  repeat' (first
    | (refine codeK_sound good (mu := []) ?_; conv => whnf)
    | ((first | rw [wl0] | rw [wl1] | rw [wl2] | rw [wl3] | rw [wl4] | rw [wl5]); conv => whnf)
    | (refine SBool.mk (fun _ => ?_) (fun h => absurd (of_decide_eq_true rfl) h); conv => whnf)
    | (refine SBool.mk (fun h => absurd h (of_decide_eq_false rfl)) (fun _ => ?_); conv => whnf)
    | (refine SBool.mk (fun h => ?_) (fun h => ?_) <;> conv => whnf)
    | (refine SEx.mk _ (by first | exact rfl | exact ⟨of_decide_eq_true rfl, rfl⟩) ?_; conv => whnf)
    | (refine SAll.mk (fun _ => ?_); conv => whnf)
    | (refine SAnd.mk ⟨by intro c hc; simp at hc; first | (subst hc; rfl) | ((repeat' (rcases hc with rfl | hc)) <;> first | rfl | (subst hc; rfl)), by (simp; first | done | omega), by (simp; first | done | omega)⟩ ?_; conv => whnf)
    | (refine SAnd.mk (by first | exact rfl | kernel_rfl | omega | decide) ?_; conv => whnf)
    | fail)
  all_goals exact ⟨PLe.of_eq (by simp [*])⟩
theorem refRange_pure (n a b : Int) : APure C 55 [I n, I a, I b] (I (within n a b)) := by
  refine APure.of_body good [] (fn := Tryz.f55) (by kernel_rfl) (by kernel_rfl) rfl rfl (by kernel_rfl) rfl (by kernel_rfl) ?_
  conv => whnf
  repeat' (first
    | (refine codeK_sound good (mu := []) ?_; conv => whnf)
    | ((first | rw [wl0] | rw [wl1] | rw [wl2] | rw [wl3] | rw [wl4] | rw [wl5]); conv => whnf)
    | (refine SBool.mk (fun _ => ?_) (fun h => absurd (of_decide_eq_true rfl) h); conv => whnf)
    | (refine SBool.mk (fun h => absurd h (of_decide_eq_false rfl)) (fun _ => ?_); conv => whnf)
    | (refine SBool.mk (fun h => ?_) (fun h => ?_) <;> conv => whnf)
    | (refine SEx.mk _ (by first | exact refWhen_pure _ _) ?_; conv => whnf)
    | (refine SEx.mk _ (by first | exact rfl | exact ⟨of_decide_eq_true rfl, rfl⟩) ?_; conv => whnf)
    | (refine SAll.mk (fun _ => ?_); conv => whnf)
    | (refine SAnd.mk ⟨by intro c hc; simp at hc; first | (subst hc; rfl) | ((repeat' (rcases hc with rfl | hc)) <;> first | rfl | (subst hc; rfl)), by (simp; first | done | omega), by (simp; first | done | omega)⟩ ?_; conv => whnf)
    | (refine SAnd.mk (by first | exact rfl | kernel_rfl | omega | decide | exact refWhen_pure _ _) ?_; conv => whnf)
    | fail)
  all_goals exact ⟨PLe.of_eq (by simp [within, *])⟩
theorem refAgainst_pure (s : Sg) (a : G) : APure C 96 [.agg (sc s), .agg (gc a)] (I (wrap64 (wrap64 (a.re * s.c.re) + wrap64 (a.im * s.c.im)))) := by
  refine APure.of_body good [] (fn := Tryz.f96) (by kernel_rfl) (by kernel_rfl) rfl rfl (by kernel_rfl) rfl (by kernel_rfl) ?_
  conv => whnf
  repeat' (first
    | (refine codeK_sound good (mu := []) ?_; conv => whnf)
    | ((first | rw [wl0] | rw [wl1] | rw [wl2] | rw [wl3] | rw [wl4] | rw [wl5]); conv => whnf)
    | (refine SBool.mk (fun _ => ?_) (fun h => absurd (of_decide_eq_true rfl) h); conv => whnf)
    | (refine SBool.mk (fun h => absurd h (of_decide_eq_false rfl)) (fun _ => ?_); conv => whnf)
    | (refine SBool.mk (fun h => ?_) (fun h => ?_) <;> conv => whnf)
    | (refine SEx.mk _ (by first | exact rfl | exact ⟨of_decide_eq_true rfl, rfl⟩) ?_; conv => whnf)
    | (refine SAll.mk (fun _ => ?_); conv => whnf)
    | (refine SAnd.mk ⟨by intro c hc; simp at hc; first | (subst hc; rfl) | ((repeat' (rcases hc with rfl | hc)) <;> first | rfl | (subst hc; rfl)), by (simp; first | done | omega), by (simp; first | done | omega)⟩ ?_; conv => whnf)
    | (refine SAnd.mk (by first | exact rfl | kernel_rfl | omega | decide) ?_; conv => whnf)
    | fail)
  exact ⟨PLe.refl _⟩
end Go.Proofs.Ab.Tone
end
section
/- The reference's errors. -/
set_option maxRecDepth 100000
set_option linter.unusedVariables false
set_option linter.unusedSimpArgs false
namespace Go.Proofs.Ab.Tone
open Go Go.RowKit Go.Proofs.Ab
theorem refFirst_pure (xs : List Int) (hl : xs.length ≤ 4611686018427387904) : APure C 29 [ints xs] (I (firstOf xs)) := by
  refine APure.of_body good [] (fn := Tryz.f29) (by kernel_rfl) (by kernel_rfl) rfl rfl (by kernel_rfl) rfl (by kernel_rfl) ?_
  conv => whnf
  refine ⟨AWp.loop (ι := { k : Nat // k ≤ xs.length ∧ firstOf xs = firstOf (xs.drop k) }) (fun k => ⟨[(3, .p (I k.1)), (0, .p (ints xs))], [], [], 0, [], [], []⟩) (fun k => xs.length - k.1) ⟨0, by simp⟩ ?_ ?_⟩
  · refine SLe.of [] [] rfl rfl ?_
    conv => whnf
    repeat' (first
    | exact True.intro
    | (refine SAnd.mk (PLe.of_eq (by simp only [wrapK]; rw [wrap_id (by first | omega | (simp only; done) | (simp only; omega) | simp) (by first | omega | (simp only; done) | (simp only; omega) | simp)]; simp)) ?_; conv => whnf)
    | (refine SAnd.mk (PLe.refl _) ?_; conv => whnf)
    | (refine SAnd.mk (PLeL.refl _) ?_; conv => whnf)
    | (refine SAnd.mk (PLe.of_eq (by simp)) ?_; conv => whnf)
    | (refine SAnd.mk rfl ?_; conv => whnf)
    | (refine SAnd.mk ⟨rfl, rfl⟩ ?_; conv => whnf)
    | (refine SAnd.mk ⟨rfl, rfl, rfl⟩ ?_; conv => whnf))
  · rintro ⟨k, hk, he⟩
    refine codeK_sound good (mu := []) ?_
    conv => whnf
    refine SBool.mk (fun h => ?_) (fun h => ?_)
    · conv => whnf
      have hkl : k < xs.length := by simpa using h
      refine SEx.mk [I xs[k]] (by simp [hkl]) ?_
      conv => whnf
      refine SBool.mk (fun h0 => ?_) (fun h0 => ?_)
      · conv => whnf
        refine ⟨⟨k + 1, by omega, by rw [he, firstOf_drop hkl, if_pos h0]⟩, by simp only; omega, ?_⟩
        refine SLe.of [] [] rfl rfl ?_
        conv => whnf
        refine SAnd.mk (PLe.of_eq (by simp only [wrapK]; rw [wrap_id (by omega) (by omega)]; simp)) ?_
        conv => whnf
        refine SAnd.mk (PLe.refl _) ?_
        exact True.intro
      · conv => whnf
        refine SEx.mk [I xs[k]] (by simp [hkl]) ?_
        conv => whnf
        exact ⟨PLe.of_eq (by rw [he, firstOf_drop hkl, if_neg h0])⟩
    · conv => whnf
      have : k = xs.length := by simp at h; omega
      exact ⟨PLe.of_eq (by rw [he, this]; simp [firstOf])⟩
theorem refFirst2_pure (a b : Int) : APure C 29 [.seq 1 [[I a], [I b]]] (I (firstOf [a, b])) := refFirst_pure [a, b] (by simp)
theorem refFirst3_pure (a b c : Int) : APure C 29 [.seq 1 [[I a], [I b], [I c]]] (I (firstOf [a, b, c])) := refFirst_pure [a, b, c] (by simp)
theorem refFirst4_pure (a b c d : Int) : APure C 29 [.seq 1 [[I a], [I b], [I c], [I d]]] (I (firstOf [a, b, c, d])) := refFirst_pure [a, b, c, d] (by simp)
theorem refPart_pure (re im most : Int) : APure C 91 [.agg [I re, I im], I most] (I (partE re im most)) := by
  refine APure.of_body good [] (fn := Tryz.f91) (by kernel_rfl) (by kernel_rfl) rfl rfl (by kernel_rfl) rfl (by kernel_rfl) ?_
  conv => whnf
  repeat' (first
    | (refine codeK_sound good (mu := []) ?_; conv => whnf)
    | ((first | rw [wl0] | rw [wl1] | rw [wl2] | rw [wl3] | rw [wl4] | rw [wl5]); conv => whnf)
    | (refine SBool.mk (fun _ => ?_) (fun h => absurd (of_decide_eq_true rfl) h); conv => whnf)
    | (refine SBool.mk (fun h => absurd h (of_decide_eq_false rfl)) (fun _ => ?_); conv => whnf)
    | (refine SBool.mk (fun h => ?_) (fun h => ?_) <;> conv => whnf)
    | (refine SEx.mk _ (by first | exact refRange_pure _ _ _ | exact refFirst2_pure _ _) ?_; conv => whnf)
    | (refine SEx.mk _ (by first | exact rfl | exact ⟨of_decide_eq_true rfl, rfl⟩) ?_; conv => whnf)
    | (refine SAll.mk (fun _ => ?_); conv => whnf)
    | (refine SAnd.mk ⟨by intro c hc; simp at hc; first | (subst hc; rfl) | ((repeat' (rcases hc with rfl | hc)) <;> first | rfl | (subst hc; rfl)), by (simp; first | done | omega), by (simp; first | done | omega)⟩ ?_; conv => whnf)
    | (refine SAnd.mk (by first | exact rfl | kernel_rfl | omega | decide | exact refRange_pure _ _ _ | exact refFirst2_pure _ _) ?_; conv => whnf)
    | fail)
  exact ⟨PLe.refl _⟩
def refCheckE (s : Sg) : Int := firstOf [partE s.c.re s.c.im 10000, partE s.l.re s.l.im 10000, partE s.h.re s.h.im 10000, zeroE s.c]
theorem refWhenZero_pure (a : G) : APure C 92 [Bo (decide (a.re = 0 ∧ a.im = 0)), I 6] (I (zeroE a)) := by
  have := refWhen_pure (decide (a.re = 0 ∧ a.im = 0)) 6
  simpa [zeroE] using this
theorem refCheckSignal_pure (s : Sg) : APure C 18 [.agg (sc s)] (I (refCheckE s)) := by
  refine APure.of_body good [] (fn := Tryz.f18) (by kernel_rfl) (by kernel_rfl) rfl rfl (by kernel_rfl) rfl (by kernel_rfl) ?_
  conv => whnf
  repeat' (first
    | (refine codeK_sound good (mu := []) ?_; conv => whnf)
    | ((first | rw [wl0] | rw [wl1] | rw [wl2] | rw [wl3] | rw [wl4] | rw [wl5]); conv => whnf)
    | (refine SBool.mk (fun _ => ?_) (fun h => absurd (of_decide_eq_true rfl) h); conv => whnf)
    | (refine SBool.mk (fun h => absurd h (of_decide_eq_false rfl)) (fun _ => ?_); conv => whnf)
    | (refine SBool.mk (fun h => ?_) (fun h => ?_) <;> conv => whnf)
    | (refine SEx.mk _ (by first | exact refPart_pure _ _ _ | exact refZero_pure _ _ | exact refWhenZero_pure s.c | exact refFirst4_pure _ _ _ _) ?_; conv => whnf)
    | (refine SEx.mk _ (by first | exact rfl | exact ⟨of_decide_eq_true rfl, rfl⟩) ?_; conv => whnf)
    | (refine SAll.mk (fun _ => ?_); conv => whnf)
    | (refine SAnd.mk ⟨by intro c hc; simp at hc; first | (subst hc; rfl) | ((repeat' (rcases hc with rfl | hc)) <;> first | rfl | (subst hc; rfl)), by (simp; first | done | omega), by (simp; first | done | omega)⟩ ?_; conv => whnf)
    | (refine SAnd.mk (by first | exact rfl | kernel_rfl | omega | decide | exact refPart_pure _ _ _ | exact refZero_pure _ _ | exact refWhenZero_pure s.c | exact refFirst4_pure _ _ _ _) ?_; conv => whnf)
    | fail)
  exact ⟨PLe.refl _⟩
end Go.Proofs.Ab.Tone
end
section
/- The reference's errors and products are the program's. -/
set_option maxRecDepth 100000
set_option linter.unusedVariables false
set_option linter.unusedSimpArgs false
namespace Go.Proofs.Ab.Tone
open Go Go.RowKit Go.Proofs.Ab
theorem within_or (n a b : Int) : within n a b = 0 ∨ within n a b = 3 := by
  unfold within
  split <;> simp
theorem partE_or (a b m : Int) : partE a b m = 0 ∨ partE a b m = 3 := by
  unfold partE
  generalize wrap64 (0 - m) = c
  rcases within_or a c m with h | h <;> rcases within_or b c m with h' | h' <;> rw [h, h'] <;> decide
theorem offE_three (a : G) : offE a 3 = partE a.re a.im 10000 := by
  unfold offE
  rcases partE_or a.re a.im 10000 with h | h <;> simp [h]
theorem firstOf_append (xs ys : List Int) : firstOf (firstOf xs :: ys) = firstOf (xs ++ ys) := by
  induction xs with
  | nil => simp [firstOf]
  | cons x xs ih =>
    by_cases h : x = 0
    · subst h
      simpa [firstOf] using ih
    · simp [firstOf, h]
theorem refCheckE_eq (s : Sg) : refCheckE s = checkE s := by
  unfold refCheckE checkE insideE
  rw [firstOf_append, offE_three, offE_three, offE_three]
  rfl
theorem refAgainst_fit (s : Sg) (a : G) (hs : s.c.Fit 1000000) (ha : a.Fit 4000000) : APure C 96 [.agg (sc s), .agg (gc a)] (I (aga s a)) := by
  have e1 : (a.re * s.c.re).natAbs ≤ 4000000 * 1000000 := by rw [Int.natAbs_mul]; exact Nat.mul_le_mul ha.re hs.re
  have e2 : (a.im * s.c.im).natAbs ≤ 4000000 * 1000000 := by rw [Int.natAbs_mul]; exact Nat.mul_le_mul ha.im hs.im
  have := refAgainst_pure s a
  rw [w64 (n := a.re * s.c.re) (by omega), w64 (n := a.im * s.c.im) (by omega), w64 (by omega)] at this
  exact this
theorem refLow_pure (s : Sg) (h : s.Fit 1000000) : APure C 21 [.agg (sc s)] (I (aga s s.l)) := by
  refine APure.of_body good [] (fn := Tryz.f21) (by kernel_rfl) (by kernel_rfl) rfl rfl (by kernel_rfl) rfl (by kernel_rfl) ?_
  conv => whnf
  repeat' (first
    | (refine codeK_sound good (mu := []) ?_; conv => whnf)
    | ((first | rw [wl0] | rw [wl1] | rw [wl2] | rw [wl3] | rw [wl4] | rw [wl5]); conv => whnf)
    | (refine SBool.mk (fun _ => ?_) (fun h => absurd (of_decide_eq_true rfl) h); conv => whnf)
    | (refine SBool.mk (fun h => absurd h (of_decide_eq_false rfl)) (fun _ => ?_); conv => whnf)
    | (refine SBool.mk (fun h => ?_) (fun h => ?_) <;> conv => whnf)
    | (refine SEx.mk _ (by first | exact refAgainst_fit s s.l h.c (h.l.mono (by decide))) ?_; conv => whnf)
    | (refine SEx.mk _ (by first | exact rfl | exact ⟨of_decide_eq_true rfl, rfl⟩) ?_; conv => whnf)
    | (refine SAll.mk (fun _ => ?_); conv => whnf)
    | (refine SAnd.mk ⟨by intro c hc; simp at hc; first | (subst hc; rfl) | ((repeat' (rcases hc with rfl | hc)) <;> first | rfl | (subst hc; rfl)), by (simp; first | done | omega), by (simp; first | done | omega)⟩ ?_; conv => whnf)
    | (refine SAnd.mk (by first | exact rfl | kernel_rfl | omega | decide | exact refAgainst_fit s s.l h.c (h.l.mono (by decide))) ?_; conv => whnf)
    | fail)
  exact ⟨PLe.refl _⟩
theorem refHigh_pure (s : Sg) (h : s.Fit 1000000) : APure C 22 [.agg (sc s)] (I (aga s s.h)) := by
  refine APure.of_body good [] (fn := Tryz.f22) (by kernel_rfl) (by kernel_rfl) rfl rfl (by kernel_rfl) rfl (by kernel_rfl) ?_
  conv => whnf
  repeat' (first
    | (refine codeK_sound good (mu := []) ?_; conv => whnf)
    | ((first | rw [wl0] | rw [wl1] | rw [wl2] | rw [wl3] | rw [wl4] | rw [wl5]); conv => whnf)
    | (refine SBool.mk (fun _ => ?_) (fun h => absurd (of_decide_eq_true rfl) h); conv => whnf)
    | (refine SBool.mk (fun h => absurd h (of_decide_eq_false rfl)) (fun _ => ?_); conv => whnf)
    | (refine SBool.mk (fun h => ?_) (fun h => ?_) <;> conv => whnf)
    | (refine SEx.mk _ (by first | exact refAgainst_fit s s.h h.c (h.h.mono (by decide))) ?_; conv => whnf)
    | (refine SEx.mk _ (by first | exact rfl | exact ⟨of_decide_eq_true rfl, rfl⟩) ?_; conv => whnf)
    | (refine SAll.mk (fun _ => ?_); conv => whnf)
    | (refine SAnd.mk ⟨by intro c hc; simp at hc; first | (subst hc; rfl) | ((repeat' (rcases hc with rfl | hc)) <;> first | rfl | (subst hc; rfl)), by (simp; first | done | omega), by (simp; first | done | omega)⟩ ?_; conv => whnf)
    | (refine SAnd.mk (by first | exact rfl | kernel_rfl | omega | decide | exact refAgainst_fit s s.h h.c (h.h.mono (by decide))) ?_; conv => whnf)
    | fail)
  exact ⟨PLe.refl _⟩
theorem aga_sub (s : Sg) (a b : G) : aga s (a.sub b) = aga s a - aga s b := by
  simp only [aga, G.sub, Int.sub_mul]
  omega
theorem aga_add (s : Sg) (a b : G) : aga s (a.add b) = aga s a + aga s b := by
  simp only [aga, G.add, Int.add_mul]
  omega
theorem refDifference_pure (s : Sg) (h : s.Fit 10000) : APure C 97 [.agg (sc s)] (I (dif s)) := by
  have hf := h.mono (n := 1000000) (by decide)
  have b1 := dif_bound h
  have e : wrapK IntKind.i64 (aga s s.l - aga s s.h) = dif s := by unfold dif; rw [aga_sub]; exact w64 (by rw [← aga_sub]; exact Nat.le_trans b1 (by decide))
  refine APure.of_body good [] (fn := Tryz.f97) (by kernel_rfl) (by kernel_rfl) rfl rfl (by kernel_rfl) rfl (by kernel_rfl) ?_
  conv => whnf
  repeat' (first
    | (refine codeK_sound good (mu := []) ?_; conv => whnf)
    | ((first | rw [wl0] | rw [wl1] | rw [wl2] | rw [wl3] | rw [wl4] | rw [wl5]); conv => whnf)
    | (refine SBool.mk (fun _ => ?_) (fun h => absurd (of_decide_eq_true rfl) h); conv => whnf)
    | (refine SBool.mk (fun h => absurd h (of_decide_eq_false rfl)) (fun _ => ?_); conv => whnf)
    | (refine SBool.mk (fun h => ?_) (fun h => ?_) <;> conv => whnf)
    | (refine SEx.mk _ (by first | exact refLow_pure s hf | exact refHigh_pure s hf) ?_; conv => whnf)
    | (refine SEx.mk _ (by first | exact rfl | exact ⟨of_decide_eq_true rfl, rfl⟩) ?_; conv => whnf)
    | (refine SAll.mk (fun _ => ?_); conv => whnf)
    | (refine SAnd.mk ⟨by intro c hc; simp at hc; first | (subst hc; rfl) | ((repeat' (rcases hc with rfl | hc)) <;> first | rfl | (subst hc; rfl)), by (simp; first | done | omega), by (simp; first | done | omega)⟩ ?_; conv => whnf)
    | (refine SAnd.mk (by first | exact rfl | kernel_rfl | omega | decide | exact refLow_pure s hf | exact refHigh_pure s hf) ?_; conv => whnf)
    | fail)
  exact ⟨PLe.of_eq (by rw [e])⟩
theorem refTotal_pure (s : Sg) (h : s.Fit 10000) : APure C 24 [.agg (sc s)] (I (tot s)) := by
  have hf := h.mono (n := 1000000) (by decide)
  have b1 := tot_bound h
  have e : wrapK IntKind.i64 (aga s s.l + aga s s.h) = tot s := by unfold tot; rw [aga_add]; exact w64 (by rw [← aga_add]; exact Nat.le_trans b1 (by decide))
  refine APure.of_body good [] (fn := Tryz.f24) (by kernel_rfl) (by kernel_rfl) rfl rfl (by kernel_rfl) rfl (by kernel_rfl) ?_
  conv => whnf
  repeat' (first
    | (refine codeK_sound good (mu := []) ?_; conv => whnf)
    | ((first | rw [wl0] | rw [wl1] | rw [wl2] | rw [wl3] | rw [wl4] | rw [wl5]); conv => whnf)
    | (refine SBool.mk (fun _ => ?_) (fun h => absurd (of_decide_eq_true rfl) h); conv => whnf)
    | (refine SBool.mk (fun h => absurd h (of_decide_eq_false rfl)) (fun _ => ?_); conv => whnf)
    | (refine SBool.mk (fun h => ?_) (fun h => ?_) <;> conv => whnf)
    | (refine SEx.mk _ (by first | exact refLow_pure s hf | exact refHigh_pure s hf) ?_; conv => whnf)
    | (refine SEx.mk _ (by first | exact rfl | exact ⟨of_decide_eq_true rfl, rfl⟩) ?_; conv => whnf)
    | (refine SAll.mk (fun _ => ?_); conv => whnf)
    | (refine SAnd.mk ⟨by intro c hc; simp at hc; first | (subst hc; rfl) | ((repeat' (rcases hc with rfl | hc)) <;> first | rfl | (subst hc; rfl)), by (simp; first | done | omega), by (simp; first | done | omega)⟩ ?_; conv => whnf)
    | (refine SAnd.mk (by first | exact rfl | kernel_rfl | omega | decide | exact refLow_pure s hf | exact refHigh_pure s hf) ?_; conv => whnf)
    | fail)
  exact ⟨PLe.of_eq (by rw [e])⟩
theorem refSquareG_pure (a : G) (ha : a.Fit 1000000) : APure C 94 [.agg (gc a)] (I (sq a)) := by
  have e1 := sq_bound ha.re; have e2 := sq_bound ha.im
  have := refSquare_pure a.re a.im
  rw [w64 (n := a.re * a.re) (by omega), w64 (n := a.im * a.im) (by omega), w64 (by omega)] at this
  exact this
theorem refSquareS_pure (s : Sg) (h : s.c.Fit 1000000) : APure C 19 [.agg (sc s)] (I (sq s.c)) := by
  refine APure.of_body good [] (fn := Tryz.f19) (by kernel_rfl) (by kernel_rfl) rfl rfl (by kernel_rfl) rfl (by kernel_rfl) ?_
  conv => whnf
  repeat' (first
    | (refine codeK_sound good (mu := []) ?_; conv => whnf)
    | ((first | rw [wl0] | rw [wl1] | rw [wl2] | rw [wl3] | rw [wl4] | rw [wl5]); conv => whnf)
    | (refine SBool.mk (fun _ => ?_) (fun h => absurd (of_decide_eq_true rfl) h); conv => whnf)
    | (refine SBool.mk (fun h => absurd h (of_decide_eq_false rfl)) (fun _ => ?_); conv => whnf)
    | (refine SBool.mk (fun h => ?_) (fun h => ?_) <;> conv => whnf)
    | (refine SEx.mk _ (by first | exact refSquareG_pure s.c h) ?_; conv => whnf)
    | (refine SEx.mk _ (by first | exact rfl | exact ⟨of_decide_eq_true rfl, rfl⟩) ?_; conv => whnf)
    | (refine SAll.mk (fun _ => ?_); conv => whnf)
    | (refine SAnd.mk ⟨by intro c hc; simp at hc; first | (subst hc; rfl) | ((repeat' (rcases hc with rfl | hc)) <;> first | rfl | (subst hc; rfl)), by (simp; first | done | omega), by (simp; first | done | omega)⟩ ?_; conv => whnf)
    | (refine SAnd.mk (by first | exact rfl | kernel_rfl | omega | decide | exact refSquareG_pure s.c h) ?_; conv => whnf)
    | fail)
  exact ⟨PLe.refl _⟩
end Go.Proofs.Ab.Tone
end
section
/- The reference's ratios. -/
set_option maxRecDepth 100000
set_option linter.unusedVariables false
set_option linter.unusedSimpArgs false
namespace Go.Proofs.Ab.Tone
open Go Go.RowKit Go.Proofs.Ab
theorem refDivisor_pure (x y : Int) (hx : x.natAbs ≤ 4000000000000000000) (hy : y.natAbs ≤ 4000000000000000000) : APure C 95 [I x, I y] (I (Int.gcd x y)) := by
  refine APure.of_body good [] (fn := Tryz.f95) (by kernel_rfl) (by kernel_rfl) rfl rfl (by kernel_rfl) rfl (by kernel_rfl) ?_
  conv => whnf
  refine ⟨AWp.loop (ι := { p : Int × Int // 0 ≤ p.1 ∧ 0 ≤ p.2 ∧ p.1 ≤ 4000000000000000000 ∧ p.2 ≤ 4000000000000000000 ∧ Int.gcd p.1 p.2 = Int.gcd x y })
    (fun p => ⟨[(1, .p (I p.1.2)), (0, .p (I p.1.1))], [], [], 0, [], [], []⟩) (fun p => p.1.2.toNat) ⟨(max x (wrap64 (0 - x)), max y (wrap64 (0 - y))), ?_⟩ ?_ ?_⟩
  · rw [w64 (n := 0 - x) (by omega), w64 (n := 0 - y) (by omega)]
    refine ⟨by simp only; omega, by simp only; omega, by simp only; omega, by simp only; omega, ?_⟩
    have e1 : max x (0 - x) = (x.natAbs : Int) := by omega
    have e2 : max y (0 - y) = (y.natAbs : Int) := by omega
    simp only
    rw [e1, e2]
    unfold Int.gcd
    simp
  · refine SLe.of [] [] rfl rfl ?_
    conv => whnf
    repeat' (first
    | exact True.intro
    | (refine SAnd.mk (PLe.of_eq (by simp only [wrapK]; rw [wrap_id (by first | omega | (simp only; done) | (simp only; omega) | simp) (by first | omega | (simp only; done) | (simp only; omega) | simp)]; simp)) ?_; conv => whnf)
    | (refine SAnd.mk (PLe.refl _) ?_; conv => whnf)
    | (refine SAnd.mk (PLeL.refl _) ?_; conv => whnf)
    | (refine SAnd.mk (PLe.of_eq (by simp)) ?_; conv => whnf)
    | (refine SAnd.mk rfl ?_; conv => whnf)
    | (refine SAnd.mk ⟨rfl, rfl⟩ ?_; conv => whnf)
    | (refine SAnd.mk ⟨rfl, rfl, rfl⟩ ?_; conv => whnf))
  · rintro ⟨⟨a, b⟩, ha, hb, ham, hbm, hg⟩
    refine codeK_sound good (mu := []) ?_
    conv => whnf
    refine SBool.mk (fun h => ?_) (fun h => ?_)
    · conv => whnf
      have h0 : b = 0 := h
      simp only at ha hg
      refine ⟨PLe.of_eq ?_⟩
      have : (Int.gcd x y : Int) = a := by
        rw [← hg, h0]
        unfold Int.gcd
        simp
        omega
      rw [this]
    · conv => whnf
      have h0 : ¬ b = 0 := h
      refine SAnd.mk (by kernel_rfl) ?_
      conv => whnf
      refine SAnd.mk h0 ?_
      conv => whnf
      simp only at ha hb ham hbm hg
      have e : a.tmod b = a % b := Int.tmod_eq_emod_of_nonneg ha
      have l1 := Int.emod_nonneg a h0
      have l2 := Int.emod_lt_of_pos a (by omega : 0 < b)
      refine ⟨⟨(b, a.tmod b), hb, by rw [e]; exact l1, hbm, by rw [e]; omega, by rw [← hg]; exact gcd_step a b⟩, by simp only; omega, ?_⟩
      · refine SLe.of [] [] rfl rfl ?_
        conv => whnf
        repeat' (first
        | exact True.intro
        | (refine SAnd.mk (PLe.of_eq (by simp only [wrapK]; rw [wrap_id (by first | omega | (simp only; done) | (simp only; omega) | simp) (by first | omega | (simp only; done) | (simp only; omega) | simp)]; simp)) ?_; conv => whnf)
        | (refine SAnd.mk (PLe.refl _) ?_; conv => whnf)
        | (refine SAnd.mk (PLeL.refl _) ?_; conv => whnf)
        | (refine SAnd.mk (PLe.of_eq (by simp)) ?_; conv => whnf)
        | (refine SAnd.mk rfl ?_; conv => whnf)
        | (refine SAnd.mk ⟨rfl, rfl⟩ ?_; conv => whnf)
        | (refine SAnd.mk ⟨rfl, rfl, rfl⟩ ?_; conv => whnf))
theorem refLowest_pure (n d : Int) (hn : n.natAbs ≤ 4000000000000000000) (hd : 0 < d) (hd2 : d ≤ 4000000000000000000) : APure C 20 [I n, I d] (.agg (rc (low n d))) := by
  have hpos : (Int.gcd n d : Int) ≠ 0 := by
    have := Int.gcd_pos_of_ne_zero_right n (b := d) (by omega)
    omega
  have d1 : (Int.gcd n d : Int) ∣ n := Int.gcd_dvd_left ..
  have d2 : (Int.gcd n d : Int) ∣ d := Int.gcd_dvd_right ..
  have b1 := natAbs_tdiv_le n (Int.gcd n d)
  have b2 := natAbs_tdiv_le d (Int.gcd n d)
  refine APure.of_body good [] (fn := Tryz.f20) (by kernel_rfl) (by kernel_rfl) rfl rfl (by kernel_rfl) rfl (by kernel_rfl) ?_
  conv => whnf
  refine SBool.mk (fun h => absurd h (by omega)) (fun _ => ?_)
  conv => whnf
  repeat' (first
    | (refine codeK_sound good (mu := []) ?_; conv => whnf)
    | ((first | rw [wl0] | rw [wl1] | rw [wl2] | rw [wl3] | rw [wl4] | rw [wl5]); conv => whnf)
    | (refine SBool.mk (fun _ => ?_) (fun h => absurd (of_decide_eq_true rfl) h); conv => whnf)
    | (refine SBool.mk (fun h => absurd h (of_decide_eq_false rfl)) (fun _ => ?_); conv => whnf)
    | (refine SBool.mk (fun h => ?_) (fun h => ?_) <;> conv => whnf)
    | (refine SEx.mk _ (by first | exact refDivisor_pure n d hn (by omega)) ?_; conv => whnf)
    | (refine SEx.mk _ (by first | exact rfl | exact ⟨of_decide_eq_true rfl, rfl⟩) ?_; conv => whnf)
    | (refine SAll.mk (fun _ => ?_); conv => whnf)
    | (refine SAnd.mk ⟨by intro c hc; simp at hc; first | (subst hc; rfl) | ((repeat' (rcases hc with rfl | hc)) <;> first | rfl | (subst hc; rfl)), by (simp; first | done | omega), by (simp; first | done | omega)⟩ ?_; conv => whnf)
    | (refine SAnd.mk (by first | exact rfl | kernel_rfl | omega | decide | exact refDivisor_pure n d hn (by omega)) ?_; conv => whnf)
    | fail)
  refine ⟨PLe.of_eq ?_⟩
  show PV.agg [I (wrap64 (n.tdiv _)), I (wrap64 (d.tdiv _))] = _
  rw [w64 (by omega), w64 (by omega), tdiv_exact d1, tdiv_exact d2]
  rfl
theorem refNeedle_pure (s : Sg) (h : Ok s) : APure C 23 [.agg (sc s)] (.agg (rc (low (dif s) (sq s.c)))) := by
  have hf := h.fit.mono (n := 1000000) (by decide)
  have b1 := dif_bound h.fit; have b2 := sq_le h.fit.c
  refine APure.of_body good [] (fn := Tryz.f23) (by kernel_rfl) (by kernel_rfl) rfl rfl (by kernel_rfl) rfl (by kernel_rfl) ?_
  conv => whnf
  repeat' (first
    | (refine codeK_sound good (mu := []) ?_; conv => whnf)
    | ((first | rw [wl0] | rw [wl1] | rw [wl2] | rw [wl3] | rw [wl4] | rw [wl5]); conv => whnf)
    | (refine SBool.mk (fun _ => ?_) (fun h => absurd (of_decide_eq_true rfl) h); conv => whnf)
    | (refine SBool.mk (fun h => absurd h (of_decide_eq_false rfl)) (fun _ => ?_); conv => whnf)
    | (refine SBool.mk (fun h => ?_) (fun h => ?_) <;> conv => whnf)
    | (refine SEx.mk _ (by first | exact refDifference_pure s h.fit | exact refSquareS_pure s hf.c | exact refLowest_pure _ _ (by omega) h.sq_pos (by omega)) ?_; conv => whnf)
    | (refine SEx.mk _ (by first | exact rfl | exact ⟨of_decide_eq_true rfl, rfl⟩) ?_; conv => whnf)
    | (refine SAll.mk (fun _ => ?_); conv => whnf)
    | (refine SAnd.mk ⟨by intro c hc; simp at hc; first | (subst hc; rfl) | ((repeat' (rcases hc with rfl | hc)) <;> first | rfl | (subst hc; rfl)), by (simp; first | done | omega), by (simp; first | done | omega)⟩ ?_; conv => whnf)
    | (refine SAnd.mk (by first | exact rfl | kernel_rfl | omega | decide | exact refDifference_pure s h.fit | exact refSquareS_pure s hf.c | exact refLowest_pure _ _ (by omega) h.sq_pos (by omega)) ?_; conv => whnf)
    | fail)
  exact ⟨PLe.refl _⟩
end Go.Proofs.Ab.Tone
end
section
/- The reference's sums, factors, turns. -/
set_option maxRecDepth 100000
set_option linter.unusedVariables false
set_option linter.unusedSimpArgs false
namespace Go.Proofs.Ab.Tone
open Go Go.RowKit Go.Proofs.Ab
theorem refTurnE_pure (k : Int) : APure C 30 [I k] (I (within k 0 3)) := by
  refine APure.of_body good [] (fn := Tryz.f30) (by kernel_rfl) (by kernel_rfl) rfl rfl (by kernel_rfl) rfl (by kernel_rfl) ?_
  conv => whnf
  repeat' (first
    | (refine codeK_sound good (mu := []) ?_; conv => whnf)
    | ((first | rw [wl0] | rw [wl1] | rw [wl2] | rw [wl3] | rw [wl4] | rw [wl5]); conv => whnf)
    | (refine SBool.mk (fun _ => ?_) (fun h => absurd (of_decide_eq_true rfl) h); conv => whnf)
    | (refine SBool.mk (fun h => absurd h (of_decide_eq_false rfl)) (fun _ => ?_); conv => whnf)
    | (refine SBool.mk (fun h => ?_) (fun h => ?_) <;> conv => whnf)
    | (refine SEx.mk _ (by first | exact refRange_pure _ _ _) ?_; conv => whnf)
    | (refine SEx.mk _ (by first | exact rfl | exact ⟨of_decide_eq_true rfl, rfl⟩) ?_; conv => whnf)
    | (refine SAll.mk (fun _ => ?_); conv => whnf)
    | (refine SAnd.mk ⟨by intro c hc; simp at hc; first | (subst hc; rfl) | ((repeat' (rcases hc with rfl | hc)) <;> first | rfl | (subst hc; rfl)), by (simp; first | done | omega), by (simp; first | done | omega)⟩ ?_; conv => whnf)
    | (refine SAnd.mk (by first | exact rfl | kernel_rfl | omega | decide | exact refRange_pure _ _ _) ?_; conv => whnf)
    | fail)
  exact ⟨PLe.refl _⟩
theorem refFactors_pure (c d : G) : APure C 31 [.agg (gc c), .agg (gc d)] (I (firstOf [partE c.re c.im 1000, zeroE c, partE d.re d.im 1000])) := by
  refine APure.of_body good [] (fn := Tryz.f31) (by kernel_rfl) (by kernel_rfl) rfl rfl (by kernel_rfl) rfl (by kernel_rfl) ?_
  conv => whnf
  repeat' (first
    | (refine codeK_sound good (mu := []) ?_; conv => whnf)
    | ((first | rw [wl0] | rw [wl1] | rw [wl2] | rw [wl3] | rw [wl4] | rw [wl5]); conv => whnf)
    | (refine SBool.mk (fun _ => ?_) (fun h => absurd (of_decide_eq_true rfl) h); conv => whnf)
    | (refine SBool.mk (fun h => absurd h (of_decide_eq_false rfl)) (fun _ => ?_); conv => whnf)
    | (refine SBool.mk (fun h => ?_) (fun h => ?_) <;> conv => whnf)
    | (refine SEx.mk _ (by first | exact refPart_pure _ _ _ | exact refZero_pure _ _ | exact refWhenZero_pure c | exact refFirst3_pure _ _ _) ?_; conv => whnf)
    | (refine SEx.mk _ (by first | exact rfl | exact ⟨of_decide_eq_true rfl, rfl⟩) ?_; conv => whnf)
    | (refine SAll.mk (fun _ => ?_); conv => whnf)
    | (refine SAnd.mk ⟨by intro c hc; simp at hc; first | (subst hc; rfl) | ((repeat' (rcases hc with rfl | hc)) <;> first | rfl | (subst hc; rfl)), by (simp; first | done | omega), by (simp; first | done | omega)⟩ ?_; conv => whnf)
    | (refine SAnd.mk (by first | exact rfl | kernel_rfl | omega | decide | exact refPart_pure _ _ _ | exact refZero_pure _ _ | exact refWhenZero_pure c | exact refFirst3_pure _ _ _) ?_; conv => whnf)
    | fail)
  exact ⟨PLe.refl _⟩
theorem refPlus_fit (a b : G) (m : Nat) (hm : m ≤ 1000000000000000) (ha : a.Fit m) (hb : b.Fit m) : APure C 75 [.agg (gc a), .agg (gc b)] (.agg (gc (a.add b))) := by
  have e1 := ha.re; have e2 := ha.im; have e3 := hb.re; have e4 := hb.im
  have := refPlus_pure a.re a.im b.re b.im
  rw [w64 (n := a.re + b.re) (by omega), w64 (n := a.im + b.im) (by omega)] at this
  exact this
theorem refMinus_fit (a b : G) (m : Nat) (hm : m ≤ 1000000000000000) (ha : a.Fit m) (hb : b.Fit m) : APure C 76 [.agg (gc a), .agg (gc b)] (.agg (gc (a.sub b))) := by
  have e1 := ha.re; have e2 := ha.im; have e3 := hb.re; have e4 := hb.im
  have := refMinus_pure a.re a.im b.re b.im
  rw [w64 (n := a.re - b.re) (by omega), w64 (n := a.im - b.im) (by omega)] at this
  exact this
theorem refAdded_pure (a b : Sg) (ha : a.Fit 1000000) (hb : b.Fit 1000000) : APure C 32 [.agg (sc a), .agg (sc b)] (.agg (sc (a.add b))) := by
  refine APure.of_body good [] (fn := Tryz.f32) (by kernel_rfl) (by kernel_rfl) rfl rfl (by kernel_rfl) rfl (by kernel_rfl) ?_
  conv => whnf
  repeat' (first
    | (refine codeK_sound good (mu := []) ?_; conv => whnf)
    | ((first | rw [wl0] | rw [wl1] | rw [wl2] | rw [wl3] | rw [wl4] | rw [wl5]); conv => whnf)
    | (refine SBool.mk (fun _ => ?_) (fun h => absurd (of_decide_eq_true rfl) h); conv => whnf)
    | (refine SBool.mk (fun h => absurd h (of_decide_eq_false rfl)) (fun _ => ?_); conv => whnf)
    | (refine SBool.mk (fun h => ?_) (fun h => ?_) <;> conv => whnf)
    | (refine SEx.mk _ (by first | exact refPlus_fit a.c b.c 1000000 (by decide) ha.c hb.c | exact refPlus_fit a.l b.l 1000000 (by decide) ha.l hb.l | exact refPlus_fit a.h b.h 1000000 (by decide) ha.h hb.h) ?_; conv => whnf)
    | (refine SEx.mk _ (by first | exact rfl | exact ⟨of_decide_eq_true rfl, rfl⟩) ?_; conv => whnf)
    | (refine SAll.mk (fun _ => ?_); conv => whnf)
    | (refine SAnd.mk ⟨by intro c hc; simp at hc; first | (subst hc; rfl) | ((repeat' (rcases hc with rfl | hc)) <;> first | rfl | (subst hc; rfl)), by (simp; first | done | omega), by (simp; first | done | omega)⟩ ?_; conv => whnf)
    | (refine SAnd.mk (by first | exact rfl | kernel_rfl | omega | decide | exact refPlus_fit a.c b.c 1000000 (by decide) ha.c hb.c | exact refPlus_fit a.l b.l 1000000 (by decide) ha.l hb.l | exact refPlus_fit a.h b.h 1000000 (by decide) ha.h hb.h) ?_; conv => whnf)
    | fail)
  exact ⟨PLe.refl _⟩
theorem offE_four (a : G) : offE a 4 = if partE a.re a.im 10000 = 0 then 0 else 4 := rfl
theorem refCheckSum_pure (s : Sg) : APure C 33 [.agg (sc s)] (I (madeE s)) := by
  refine APure.of_body good [] (fn := Tryz.f33) (by kernel_rfl) (by kernel_rfl) rfl rfl (by kernel_rfl) rfl (by kernel_rfl) ?_
  conv => whnf
  repeat' (first
    | (refine codeK_sound good (mu := []) ?_; conv => whnf)
    | ((first | rw [wl0] | rw [wl1] | rw [wl2] | rw [wl3] | rw [wl4] | rw [wl5]); conv => whnf)
    | (refine SBool.mk (fun _ => ?_) (fun h => absurd (of_decide_eq_true rfl) h); conv => whnf)
    | (refine SBool.mk (fun h => absurd h (of_decide_eq_false rfl)) (fun _ => ?_); conv => whnf)
    | (refine SBool.mk (fun h => ?_) (fun h => ?_) <;> conv => whnf)
    | (refine SEx.mk _ (by first | exact refPart_pure _ _ _ | exact refZero_pure _ _ | exact refWhenZero_pure s.c) ?_; conv => whnf)
    | (refine SEx.mk _ (by first | exact rfl | exact ⟨of_decide_eq_true rfl, rfl⟩) ?_; conv => whnf)
    | (refine SAll.mk (fun _ => ?_); conv => whnf)
    | (refine SAnd.mk ⟨by intro c hc; simp at hc; first | (subst hc; rfl) | ((repeat' (rcases hc with rfl | hc)) <;> first | rfl | (subst hc; rfl)), by (simp; first | done | omega), by (simp; first | done | omega)⟩ ?_; conv => whnf)
    | (refine SAnd.mk (by first | exact rfl | kernel_rfl | omega | decide | exact refPart_pure _ _ _ | exact refZero_pure _ _ | exact refWhenZero_pure s.c) ?_; conv => whnf)
    | fail)
  all_goals exact ⟨PLe.of_eq (by simp [madeE, insideE, offE_four, firstOf, *])⟩
end Go.Proofs.Ab.Tone
end
section
/- The reference's products. -/
set_option maxRecDepth 100000
set_option linter.unusedVariables false
set_option linter.unusedSimpArgs false
namespace Go.Proofs.Ab.Tone
open Go Go.RowKit Go.Proofs.Ab
theorem refTimes_raw (a b c d : Int) : APure C 111 [.agg [I a, I b], .agg [I c, I d]] (.agg [I (wrap64 (wrap64 (a * c) - wrap64 (b * d))), I (wrap64 (wrap64 (a * d) + wrap64 (b * c)))]) := by
  refine APure.of_body good [] (fn := Tryz.f111) (by kernel_rfl) (by kernel_rfl) rfl rfl (by kernel_rfl) rfl (by kernel_rfl) ?_
  conv => whnf
  repeat' (first
    | (refine codeK_sound good (mu := []) ?_; conv => whnf)
    | ((first | rw [wl0] | rw [wl1] | rw [wl2] | rw [wl3] | rw [wl4] | rw [wl5]); conv => whnf)
    | (refine SBool.mk (fun _ => ?_) (fun h => absurd (of_decide_eq_true rfl) h); conv => whnf)
    | (refine SBool.mk (fun h => absurd h (of_decide_eq_false rfl)) (fun _ => ?_); conv => whnf)
    | (refine SBool.mk (fun h => ?_) (fun h => ?_) <;> conv => whnf)
    | (refine SEx.mk _ (by first | exact rfl | exact ⟨of_decide_eq_true rfl, rfl⟩) ?_; conv => whnf)
    | (refine SAll.mk (fun _ => ?_); conv => whnf)
    | (refine SAnd.mk ⟨by intro c hc; simp at hc; first | (subst hc; rfl) | ((repeat' (rcases hc with rfl | hc)) <;> first | rfl | (subst hc; rfl)), by (simp; first | done | omega), by (simp; first | done | omega)⟩ ?_; conv => whnf)
    | (refine SAnd.mk (by first | exact rfl | kernel_rfl | omega | decide) ?_; conv => whnf)
    | fail)
  exact ⟨PLe.refl _⟩
theorem refTimes_fit (a b : G) (ha : a.Fit 4000000) (hb : b.Fit 1000000) : APure C 111 [.agg (gc a), .agg (gc b)] (.agg (gc (a.mul b))) := by
  have m : ∀ {x y : Int}, x.natAbs ≤ 4000000 → y.natAbs ≤ 1000000 → (x * y).natAbs ≤ 4000000 * 1000000 := fun hx hy => by rw [Int.natAbs_mul]; exact Nat.mul_le_mul hx hy
  have e1 := m ha.re hb.re; have e2 := m ha.im hb.im; have e3 := m ha.re hb.im; have e4 := m ha.im hb.re
  have := refTimes_raw a.re a.im b.re b.im
  rw [w64 (n := a.re * b.re) (by omega), w64 (n := a.im * b.im) (by omega), w64 (n := a.re * b.im) (by omega), w64 (n := a.im * b.re) (by omega), w64 (by omega), w64 (by omega)] at this
  exact this
theorem refScaled_pure (s : Sg) (c d : G) (hs : s.Fit 4000000) (hc : c.Fit 1000000) (hd : d.Fit 1000000) : APure C 35 [.agg (sc s), .agg (gc c), .agg (gc d)] (.agg (sc (s.by c d))) := by
  refine APure.of_body good [] (fn := Tryz.f35) (by kernel_rfl) (by kernel_rfl) rfl rfl (by kernel_rfl) rfl (by kernel_rfl) ?_
  conv => whnf
  repeat' (first
    | (refine codeK_sound good (mu := []) ?_; conv => whnf)
    | ((first | rw [wl0] | rw [wl1] | rw [wl2] | rw [wl3] | rw [wl4] | rw [wl5]); conv => whnf)
    | (refine SBool.mk (fun _ => ?_) (fun h => absurd (of_decide_eq_true rfl) h); conv => whnf)
    | (refine SBool.mk (fun h => absurd h (of_decide_eq_false rfl)) (fun _ => ?_); conv => whnf)
    | (refine SBool.mk (fun h => ?_) (fun h => ?_) <;> conv => whnf)
    | (refine SEx.mk _ (by first | exact refTimes_fit s.c c hs.c hc | exact refTimes_fit s.l d hs.l hd | exact refTimes_fit s.h d hs.h hd) ?_; conv => whnf)
    | (refine SEx.mk _ (by first | exact rfl | exact ⟨of_decide_eq_true rfl, rfl⟩) ?_; conv => whnf)
    | (refine SAll.mk (fun _ => ?_); conv => whnf)
    | (refine SAnd.mk ⟨by intro c hc; simp at hc; first | (subst hc; rfl) | ((repeat' (rcases hc with rfl | hc)) <;> first | rfl | (subst hc; rfl)), by (simp; first | done | omega), by (simp; first | done | omega)⟩ ?_; conv => whnf)
    | (refine SAnd.mk (by first | exact rfl | kernel_rfl | omega | decide | exact refTimes_fit s.c c hs.c hc | exact refTimes_fit s.l d hs.l hd | exact refTimes_fit s.h d hs.h hd) ?_; conv => whnf)
    | fail)
  exact ⟨PLe.refl _⟩
end Go.Proofs.Ab.Tone
end
section
/- The reference's receivers. -/
set_option maxRecDepth 100000
set_option linter.unusedVariables false
set_option linter.unusedSimpArgs false
namespace Go.Proofs.Ab.Tone
open Go Go.RowKit Go.Proofs.Ab
theorem refOrd (a b : Int) (h : b < a) : APure C 92 [Bo true, I 11] (I (ordE a b)) := by
  unfold ordE; rw [if_pos h]; exact refWhen_pure true 11
theorem refNord (a b : Int) (h : ¬ b < a) : APure C 92 [Bo false, I 11] (I (ordE a b)) := by
  unfold ordE; rw [if_neg h]; exact refWhen_pure false 11
theorem refInterval_pure (a b lo hi : Int) : APure C 112 [.agg [I a, I b], I lo, I hi] (I (firstOf [within a lo hi, within b lo hi, ordE a b])) := by
  refine APure.of_body good [] (fn := Tryz.f112) (by kernel_rfl) (by kernel_rfl) rfl rfl (by kernel_rfl) rfl (by kernel_rfl) ?_
  conv => whnf
  repeat' (first
    | (refine codeK_sound good (mu := []) ?_; conv => whnf)
    | ((first | rw [wl0] | rw [wl1] | rw [wl2] | rw [wl3] | rw [wl4] | rw [wl5]); conv => whnf)
    | (refine SBool.mk (fun _ => ?_) (fun h => absurd (of_decide_eq_true rfl) h); conv => whnf)
    | (refine SBool.mk (fun h => absurd h (of_decide_eq_false rfl)) (fun _ => ?_); conv => whnf)
    | (refine SBool.mk (fun h => ?_) (fun h => ?_) <;> conv => whnf)
    | (refine SEx.mk _ (by first | exact refRange_pure _ _ _ | exact refOrd _ _ (by assumption) | exact refNord _ _ (by assumption) | exact refFirst3_pure _ _ _) ?_; conv => whnf)
    | (refine SEx.mk _ (by first | exact rfl | exact ⟨of_decide_eq_true rfl, rfl⟩) ?_; conv => whnf)
    | (refine SAll.mk (fun _ => ?_); conv => whnf)
    | (refine SAnd.mk ⟨by intro c hc; simp at hc; first | (subst hc; rfl) | ((repeat' (rcases hc with rfl | hc)) <;> first | rfl | (subst hc; rfl)), by (simp; first | done | omega), by (simp; first | done | omega)⟩ ?_; conv => whnf)
    | (refine SAnd.mk (by first | exact rfl | kernel_rfl | omega | decide | exact refRange_pure _ _ _ | exact refOrd _ _ (by assumption) | exact refNord _ _ (by assumption) | exact refFirst3_pure _ _ _) ?_; conv => whnf)
    | fail)
  all_goals exact ⟨PLe.refl _⟩
theorem refFloor_pure (n d : Int) (hn : n.natAbs ≤ 4000000000000000000) (hd : 0 < d) : APure C 120 [I n, I d] (I (n / d)) := by
  have b1 := natAbs_tdiv_le n d
  have e0 : wrapK IntKind.i64 (n.tdiv d) = n.tdiv d := w64 (by omega)
  have hd0 : d ≠ 0 := by omega
  have h2 := Int.tmod_def n d
  have h3 := Int.lt_tmod_of_pos n hd
  have h4 := Int.tmod_lt_of_pos n hd
  have b2 : (n.tdiv d * d).natAbs ≤ n.natAbs := by rw [Int.natAbs_mul, Int.natAbs_tdiv]; exact Nat.div_mul_le_self _ _
  have e1 : wrapK IntKind.i64 (n.tdiv d * d) = n.tdiv d * d := w64 (by omega)
  have e2 : wrapK IntKind.i64 (n.tdiv d - 1) = n.tdiv d - 1 := wrap_id (by omega) (by omega)
  have hc : d * n.tdiv d = n.tdiv d * d := Int.mul_comm _ _
  refine APure.of_body good [] (fn := Tryz.f120) (by kernel_rfl) (by kernel_rfl) rfl rfl (by kernel_rfl) rfl (by kernel_rfl) ?_
  conv => whnf
  repeat' (first
    | (refine codeK_sound good (mu := []) ?_; conv => whnf)
    | ((first | rw [wl0] | rw [wl1] | rw [wl2] | rw [wl3] | rw [wl4] | rw [wl5]); conv => whnf)
    | (refine SBool.mk (fun _ => ?_) (fun h => absurd (of_decide_eq_true rfl) h); conv => whnf)
    | (refine SBool.mk (fun h => absurd h (of_decide_eq_false rfl)) (fun _ => ?_); conv => whnf)
    | (refine SBool.mk (fun h => ?_) (fun h => ?_) <;> conv => whnf)
    | (refine SEx.mk _ (by first | exact rfl | exact ⟨of_decide_eq_true rfl, rfl⟩) ?_; conv => whnf)
    | (refine SAll.mk (fun _ => ?_); conv => whnf)
    | (refine SAnd.mk ⟨by intro c hc; simp at hc; first | (subst hc; rfl) | ((repeat' (rcases hc with rfl | hc)) <;> first | rfl | (subst hc; rfl)), by (simp; first | done | omega), by (simp; first | done | omega)⟩ ?_; conv => whnf)
    | (refine SAnd.mk (by first | exact rfl | kernel_rfl | omega | decide) ?_; conv => whnf)
    | fail)
  · rw [e0, e1] at h
    refine ⟨PLe.of_eq ?_⟩
    rw [e0, e2]
    have : n / d = n.tdiv d - 1 := by
      rw [Int.ediv_eq_iff_of_pos hd]
      constructor
      · rw [Int.sub_mul, Int.one_mul]; omega
      · rw [Int.sub_mul, Int.one_mul]; omega
    rw [this]
  · rw [e0, e1] at h
    refine ⟨PLe.of_eq ?_⟩
    rw [e0]
    have : n / d = n.tdiv d := by
      rw [Int.ediv_eq_iff_of_pos hd]
      constructor
      · omega
      · omega
    rw [this]
theorem refReceiver_pure (r : Rx) : APure C 37 [.agg (xc r)] (I (firstOf [within r.scale 1 1000, within r.full 1 1000, within r.least 0 200000000, firstOf [within r.lo (-10000) 10000, within r.hi (-10000) 10000, ordE r.lo r.hi]])) := by
  refine APure.of_body good [] (fn := Tryz.f37) (by kernel_rfl) (by kernel_rfl) rfl rfl (by kernel_rfl) rfl (by kernel_rfl) ?_
  conv => whnf
  repeat' (first
    | (refine codeK_sound good (mu := []) ?_; conv => whnf)
    | ((first | rw [wl0] | rw [wl1] | rw [wl2] | rw [wl3] | rw [wl4] | rw [wl5]); conv => whnf)
    | (refine SBool.mk (fun _ => ?_) (fun h => absurd (of_decide_eq_true rfl) h); conv => whnf)
    | (refine SBool.mk (fun h => absurd h (of_decide_eq_false rfl)) (fun _ => ?_); conv => whnf)
    | (refine SBool.mk (fun h => ?_) (fun h => ?_) <;> conv => whnf)
    | (refine SEx.mk _ (by first | exact refRange_pure _ _ _ | exact refInterval_pure _ _ _ _ | exact refFirst4_pure _ _ _ _) ?_; conv => whnf)
    | (refine SEx.mk _ (by first | exact rfl | exact ⟨of_decide_eq_true rfl, rfl⟩) ?_; conv => whnf)
    | (refine SAll.mk (fun _ => ?_); conv => whnf)
    | (refine SAnd.mk ⟨by intro c hc; simp at hc; first | (subst hc; rfl) | ((repeat' (rcases hc with rfl | hc)) <;> first | rfl | (subst hc; rfl)), by (simp; first | done | omega), by (simp; first | done | omega)⟩ ?_; conv => whnf)
    | (refine SAnd.mk (by first | exact rfl | kernel_rfl | omega | decide | exact refRange_pure _ _ _ | exact refInterval_pure _ _ _ _ | exact refFirst4_pure _ _ _ _) ?_; conv => whnf)
    | fail)
  all_goals exact ⟨PLe.refl _⟩
end Go.Proofs.Ab.Tone
end
section
/- What the reference shows. -/
set_option maxRecDepth 100000
set_option linter.unusedVariables false
set_option linter.unusedSimpArgs false
namespace Go.Proofs.Ab.Tone
open Go Go.RowKit Go.Proofs.Ab
theorem refRound_pure (n d : Int) (hn : n.natAbs ≤ 1000000000000000) (hd : 0 < d) (hd2 : d ≤ 1000000000000) : APure C 163 [I n, I d] (I ((2 * n + d) / (2 * d))) := by
  have e1 : wrapK IntKind.i64 (2 * n) = 2 * n := w64 (by omega)
  have e2 : wrapK IntKind.i64 (2 * n + d) = 2 * n + d := w64 (by omega)
  have e3 : wrapK IntKind.i64 (2 * d) = 2 * d := w64 (by omega)
  refine APure.of_body good [] (fn := Tryz.f163) (by kernel_rfl) (by kernel_rfl) rfl rfl (by kernel_rfl) rfl (by kernel_rfl) ?_
  conv => whnf
  repeat' (first
    | (refine codeK_sound good (mu := []) ?_; conv => whnf)
    | ((first | rw [wl0] | rw [wl1] | rw [wl2] | rw [wl3] | rw [wl4] | rw [wl5]); conv => whnf)
    | (refine SBool.mk (fun _ => ?_) (fun h => absurd (of_decide_eq_true rfl) h); conv => whnf)
    | (refine SBool.mk (fun h => absurd h (of_decide_eq_false rfl)) (fun _ => ?_); conv => whnf)
    | (refine SBool.mk (fun h => ?_) (fun h => ?_) <;> conv => whnf)
    | (refine SEx.mk _ (by first | exact rfl | exact ⟨of_decide_eq_true rfl, rfl⟩) ?_; conv => whnf)
    | (refine SAll.mk (fun _ => ?_); conv => whnf)
    | (refine SAnd.mk ⟨by intro c hc; simp at hc; first | (subst hc; rfl) | ((repeat' (rcases hc with rfl | hc)) <;> first | rfl | (subst hc; rfl)), by (simp; first | done | omega), by (simp; first | done | omega)⟩ ?_; conv => whnf)
    | (refine SAnd.mk (by first | exact rfl | kernel_rfl | omega | decide) ?_; conv => whnf)
    | fail)
  rw [e1, e2, e3]
  conv => whnf
  repeat' (first
    | (refine codeK_sound good (mu := []) ?_; conv => whnf)
    | ((first | rw [wl0] | rw [wl1] | rw [wl2] | rw [wl3] | rw [wl4] | rw [wl5]); conv => whnf)
    | (refine SBool.mk (fun _ => ?_) (fun h => absurd (of_decide_eq_true rfl) h); conv => whnf)
    | (refine SBool.mk (fun h => absurd h (of_decide_eq_false rfl)) (fun _ => ?_); conv => whnf)
    | (refine SBool.mk (fun h => ?_) (fun h => ?_) <;> conv => whnf)
    | (refine SEx.mk _ (by first | exact refFloor_pure _ _ (by omega) (by omega)) ?_; conv => whnf)
    | (refine SEx.mk _ (by first | exact rfl | exact ⟨of_decide_eq_true rfl, rfl⟩) ?_; conv => whnf)
    | (refine SAll.mk (fun _ => ?_); conv => whnf)
    | (refine SAnd.mk ⟨by intro c hc; simp at hc; first | (subst hc; rfl) | ((repeat' (rcases hc with rfl | hc)) <;> first | rfl | (subst hc; rfl)), by (simp; first | done | omega), by (simp; first | done | omega)⟩ ?_; conv => whnf)
    | (refine SAnd.mk (by first | exact rfl | kernel_rfl | omega | decide | exact refFloor_pure _ _ (by omega) (by omega)) ?_; conv => whnf)
    | fail)
  exact ⟨PLe.refl _⟩
theorem refShown_pure (r : Rx) (h : RxOk r) (num den : Int) (hn : num.natAbs ≤ 1000000000000) (hd : 0 < den) (hd2 : den ≤ 1000000000000) : APure C 115 [.agg (xc r), I num, I den] (I (shownI r num den)) := by
  have hs := h.s; have hf := h.f
  have hb : (num * r.scale).natAbs ≤ 1000000000000 * 1000 := by rw [Int.natAbs_mul]; exact Nat.mul_le_mul (by omega) (by omega)
  have e1 : wrapK IntKind.i64 (num * r.scale) = num * r.scale := w64 (by omega)
  have e5 : wrapK IntKind.i64 (0 - r.full) = 0 - r.full := w64 (by omega)
  refine APure.of_body good [] (fn := Tryz.f115) (by kernel_rfl) (by kernel_rfl) rfl rfl (by kernel_rfl) rfl (by kernel_rfl) ?_
  conv => whnf
  repeat' (first
    | (refine codeK_sound good (mu := []) ?_; conv => whnf)
    | ((first | rw [wl0] | rw [wl1] | rw [wl2] | rw [wl3] | rw [wl4] | rw [wl5]); conv => whnf)
    | (refine SBool.mk (fun _ => ?_) (fun h => absurd (of_decide_eq_true rfl) h); conv => whnf)
    | (refine SBool.mk (fun h => absurd h (of_decide_eq_false rfl)) (fun _ => ?_); conv => whnf)
    | (refine SBool.mk (fun h => ?_) (fun h => ?_) <;> conv => whnf)
    | (refine SEx.mk _ (by first | exact rfl | exact ⟨of_decide_eq_true rfl, rfl⟩) ?_; conv => whnf)
    | (refine SAll.mk (fun _ => ?_); conv => whnf)
    | (refine SAnd.mk ⟨by intro c hc; simp at hc; first | (subst hc; rfl) | ((repeat' (rcases hc with rfl | hc)) <;> first | rfl | (subst hc; rfl)), by (simp; first | done | omega), by (simp; first | done | omega)⟩ ?_; conv => whnf)
    | (refine SAnd.mk (by first | exact rfl | kernel_rfl | omega | decide) ?_; conv => whnf)
    | fail)
  rw [e1]
  conv => whnf
  repeat' (first
    | (refine codeK_sound good (mu := []) ?_; conv => whnf)
    | ((first | rw [wl0] | rw [wl1] | rw [wl2] | rw [wl3] | rw [wl4] | rw [wl5]); conv => whnf)
    | (refine SBool.mk (fun _ => ?_) (fun h => absurd (of_decide_eq_true rfl) h); conv => whnf)
    | (refine SBool.mk (fun h => absurd h (of_decide_eq_false rfl)) (fun _ => ?_); conv => whnf)
    | (refine SBool.mk (fun h => ?_) (fun h => ?_) <;> conv => whnf)
    | (refine SEx.mk _ (by first | exact refRound_pure _ _ (by omega) hd hd2) ?_; conv => whnf)
    | (refine SEx.mk _ (by first | exact rfl | exact ⟨of_decide_eq_true rfl, rfl⟩) ?_; conv => whnf)
    | (refine SAll.mk (fun _ => ?_); conv => whnf)
    | (refine SAnd.mk ⟨by intro c hc; simp at hc; first | (subst hc; rfl) | ((repeat' (rcases hc with rfl | hc)) <;> first | rfl | (subst hc; rfl)), by (simp; first | done | omega), by (simp; first | done | omega)⟩ ?_; conv => whnf)
    | (refine SAnd.mk (by first | exact rfl | kernel_rfl | omega | decide | exact refRound_pure _ _ (by omega) hd hd2) ?_; conv => whnf)
    | fail)
  exact ⟨PLe.of_eq (by rw [e5]; unfold shownI; rw [Int.mul_assoc])⟩
theorem refFlag_pure (r : Rx) (s : Sg) (hr : RxOk r) (hv : Ok s) : APure C 114 [.agg (xc r), .agg (sc s)] (St (flagB r s)) := by
  have hf := hv.fit.mono (n := 1000000) (by decide)
  have b1 := tot_bound hv.fit; have b2 := sq_le hv.fit.c; have b3 := hv.sq_pos
  have l1 := hr.lo; have l2 := hr.hi
  have e1 : wrapK IntKind.i64 (1000 * tot s) = 1000 * tot s := w64 (by omega)
  have hb1 : (r.lo * sq s.c).natAbs ≤ 10000 * 200000000 := by rw [Int.natAbs_mul]; exact Nat.mul_le_mul (by omega) (by omega)
  have hb2 : (r.hi * sq s.c).natAbs ≤ 10000 * 200000000 := by rw [Int.natAbs_mul]; exact Nat.mul_le_mul (by omega) (by omega)
  have e2 : wrapK IntKind.i64 (r.lo * sq s.c) = r.lo * sq s.c := w64 (by omega)
  have e3 : wrapK IntKind.i64 (r.hi * sq s.c) = r.hi * sq s.c := w64 (by omega)
  refine APure.of_body good [] (fn := Tryz.f114) (by kernel_rfl) (by kernel_rfl) rfl rfl (by kernel_rfl) rfl (by kernel_rfl) ?_
  conv => whnf
  repeat' (first
    | (refine codeK_sound good (mu := []) ?_; conv => whnf)
    | ((first | rw [wl0] | rw [wl1] | rw [wl2] | rw [wl3] | rw [wl4] | rw [wl5]); conv => whnf)
    | (refine SBool.mk (fun _ => ?_) (fun h => absurd (of_decide_eq_true rfl) h); conv => whnf)
    | (refine SBool.mk (fun h => absurd h (of_decide_eq_false rfl)) (fun _ => ?_); conv => whnf)
    | (refine SBool.mk (fun h => ?_) (fun h => ?_) <;> conv => whnf)
    | (refine SEx.mk _ (by first | exact refSquareS_pure s hf.c | exact refTotal_pure s hv.fit) ?_; conv => whnf)
    | (refine SEx.mk _ (by first | exact rfl | exact ⟨of_decide_eq_true rfl, rfl⟩) ?_; conv => whnf)
    | (refine SAll.mk (fun _ => ?_); conv => whnf)
    | (refine SAnd.mk ⟨by intro c hc; simp at hc; first | (subst hc; rfl) | ((repeat' (rcases hc with rfl | hc)) <;> first | rfl | (subst hc; rfl)), by (simp; first | done | omega), by (simp; first | done | omega)⟩ ?_; conv => whnf)
    | (refine SAnd.mk (by first | exact rfl | kernel_rfl | omega | decide | exact refSquareS_pure s hf.c | exact refTotal_pure s hv.fit) ?_; conv => whnf)
    | fail)
  all_goals simp only [e1, e2, e3] at *
  all_goals exact ⟨PLe.of_eq (by simp [flagB, *])⟩
theorem refTold_pure (r : Rx) (s : Sg) (hr : RxOk r) (hv : Ok s) : APure C 40 [.agg (xc r), .agg (sc s)] (.tup [I (toldI r s), St (flagB r s)]) := by
  have hf := hv.fit.mono (n := 1000000) (by decide)
  have b1 := dif_bound hv.fit; have b2 := sq_le hv.fit.c; have b3 := hv.sq_pos
  refine APure.of_body good [] (fn := Tryz.f40) (by kernel_rfl) (by kernel_rfl) rfl rfl (by kernel_rfl) rfl (by kernel_rfl) ?_
  conv => whnf
  repeat' (first
    | (refine codeK_sound good (mu := []) ?_; conv => whnf)
    | ((first | rw [wl0] | rw [wl1] | rw [wl2] | rw [wl3] | rw [wl4] | rw [wl5]); conv => whnf)
    | (refine SBool.mk (fun _ => ?_) (fun h => absurd (of_decide_eq_true rfl) h); conv => whnf)
    | (refine SBool.mk (fun h => absurd h (of_decide_eq_false rfl)) (fun _ => ?_); conv => whnf)
    | (refine SBool.mk (fun h => ?_) (fun h => ?_) <;> conv => whnf)
    | (refine SEx.mk _ (by first | exact refFlag_pure r s hr hv | exact neq_string _ _ _ | exact refDifference_pure s hv.fit | exact refSquareS_pure s hf.c | exact refShown_pure r hr _ _ (by omega) hv.sq_pos (by omega)) ?_; conv => whnf)
    | (refine SEx.mk _ (by first | exact rfl | exact ⟨of_decide_eq_true rfl, rfl⟩) ?_; conv => whnf)
    | (refine SAll.mk (fun _ => ?_); conv => whnf)
    | (refine SAnd.mk ⟨by intro c hc; simp at hc; first | (subst hc; rfl) | ((repeat' (rcases hc with rfl | hc)) <;> first | rfl | (subst hc; rfl)), by (simp; first | done | omega), by (simp; first | done | omega)⟩ ?_; conv => whnf)
    | (refine SAnd.mk (by first | exact rfl | kernel_rfl | omega | decide | exact refFlag_pure r s hr hv | exact neq_string _ _ _ | exact refDifference_pure s hv.fit | exact refSquareS_pure s hf.c | exact refShown_pure r hr _ _ (by omega) hv.sq_pos (by omega)) ?_; conv => whnf)
    | fail)
  all_goals rw [decide_eq_true_eq] at h
  · exact ⟨PLe.of_eq (by unfold toldI; rw [if_neg h])⟩
  · have h0 : flagB r s = bNone := Classical.byContradiction h
    exact ⟨PLe.of_eq (by unfold toldI; rw [if_pos h0, h0])⟩
end Go.Proofs.Ab.Tone
end
section
/- The reference's two signals, losses and noise. -/
set_option maxRecDepth 100000
set_option linter.unusedVariables false
set_option linter.unusedSimpArgs false
namespace Go.Proofs.Ab.Tone
open Go Go.RowKit Go.Proofs.Ab
theorem refTwo_pure (a b : Sg) (band : Int) : APure C 49 [.agg (sc a), .agg (sc b), I band] (I (twoE a b band)) := by
  have e : firstOf [checkE a, checkE b, within band 1000 10000] = twoE a b band := by unfold twoE; rw [firstOf_append]; rfl
  have ca := refCheckSignal_pure a
  have cb := refCheckSignal_pure b
  rw [refCheckE_eq] at ca cb
  refine APure.of_body good [] (fn := Tryz.f49) (by kernel_rfl) (by kernel_rfl) rfl rfl (by kernel_rfl) rfl (by kernel_rfl) ?_
  conv => whnf
  repeat' (first
    | (refine codeK_sound good (mu := []) ?_; conv => whnf)
    | ((first | rw [wl0] | rw [wl1] | rw [wl2] | rw [wl3] | rw [wl4] | rw [wl5]); conv => whnf)
    | (refine SBool.mk (fun _ => ?_) (fun h => absurd (of_decide_eq_true rfl) h); conv => whnf)
    | (refine SBool.mk (fun h => absurd h (of_decide_eq_false rfl)) (fun _ => ?_); conv => whnf)
    | (refine SBool.mk (fun h => ?_) (fun h => ?_) <;> conv => whnf)
    | (refine SEx.mk _ (by first | exact ca | exact cb | exact refRange_pure _ _ _ | exact refFirst3_pure _ _ _) ?_; conv => whnf)
    | (refine SEx.mk _ (by first | exact rfl | exact ⟨of_decide_eq_true rfl, rfl⟩) ?_; conv => whnf)
    | (refine SAll.mk (fun _ => ?_); conv => whnf)
    | (refine SAnd.mk ⟨by intro c hc; simp at hc; first | (subst hc; rfl) | ((repeat' (rcases hc with rfl | hc)) <;> first | rfl | (subst hc; rfl)), by (simp; first | done | omega), by (simp; first | done | omega)⟩ ?_; conv => whnf)
    | (refine SAnd.mk (by first | exact rfl | kernel_rfl | omega | decide | exact ca | exact cb | exact refRange_pure _ _ _ | exact refFirst3_pure _ _ _) ?_; conv => whnf)
    | fail)
  exact ⟨PLe.of_eq (by rw [e])⟩
def rcapI (a b : Sg) (band : Int) : Int := if sq b.c * band ≤ sq a.c * 1000 then 0 else if sq a.c * band ≤ sq b.c * 1000 then 1 else 2
theorem rcapI_eq {a b : Sg} {band : Int} : rcapI a b band = capI a b band := by
  unfold rcapI capI
  by_cases h : a = b ∧ band = 1000
  · obtain ⟨rfl, rfl⟩ := h
    simp
  · rw [if_neg h]
theorem refCaptured_pure (a b : Sg) (band : Int) (ha : Ok a) (hb : Ok b) (h0 : 0 ≤ band ∧ band ≤ 10000) : APure C 50 [.agg (sc a), .agg (sc b), I band] (I (capI a b band)) := by
  have fa := ha.fit.c.mono (n := 1000000) (by decide); have fb := hb.fit.c.mono (n := 1000000) (by decide)
  have a1 := sq_le ha.fit.c; have a2 := ha.sq_pos; have b1 := sq_le hb.fit.c; have b2 := hb.sq_pos
  have p1 : (sq a.c * band).natAbs ≤ 200000000 * 10000 := by rw [Int.natAbs_mul]; exact Nat.mul_le_mul (by omega) (by omega)
  have p2 : (sq b.c * band).natAbs ≤ 200000000 * 10000 := by rw [Int.natAbs_mul]; exact Nat.mul_le_mul (by omega) (by omega)
  have e1 : wrapK IntKind.i64 (sq a.c * 1000) = sq a.c * 1000 := w64 (by omega)
  have e2 : wrapK IntKind.i64 (sq b.c * 1000) = sq b.c * 1000 := w64 (by omega)
  have e3 : wrapK IntKind.i64 (sq a.c * band) = sq a.c * band := w64 (by omega)
  have e4 : wrapK IntKind.i64 (sq b.c * band) = sq b.c * band := w64 (by omega)
  rw [← rcapI_eq]
  refine APure.of_body good [] (fn := Tryz.f50) (by kernel_rfl) (by kernel_rfl) rfl rfl (by kernel_rfl) rfl (by kernel_rfl) ?_
  conv => whnf
  repeat' (first
    | (refine codeK_sound good (mu := []) ?_; conv => whnf)
    | ((first | rw [wl0] | rw [wl1] | rw [wl2] | rw [wl3] | rw [wl4] | rw [wl5]); conv => whnf)
    | (refine SBool.mk (fun _ => ?_) (fun h => absurd (of_decide_eq_true rfl) h); conv => whnf)
    | (refine SBool.mk (fun h => absurd h (of_decide_eq_false rfl)) (fun _ => ?_); conv => whnf)
    | (refine SBool.mk (fun h => ?_) (fun h => ?_) <;> conv => whnf)
    | (refine SEx.mk _ (by first | exact refSquareS_pure a fa | exact refSquareS_pure b fb) ?_; conv => whnf)
    | (refine SEx.mk _ (by first | exact rfl | exact ⟨of_decide_eq_true rfl, rfl⟩) ?_; conv => whnf)
    | (refine SAll.mk (fun _ => ?_); conv => whnf)
    | (refine SAnd.mk ⟨by intro c hc; simp at hc; first | (subst hc; rfl) | ((repeat' (rcases hc with rfl | hc)) <;> first | rfl | (subst hc; rfl)), by (simp; first | done | omega), by (simp; first | done | omega)⟩ ?_; conv => whnf)
    | (refine SAnd.mk (by first | exact rfl | kernel_rfl | omega | decide | exact refSquareS_pure a fa | exact refSquareS_pure b fb) ?_; conv => whnf)
    | fail)
  all_goals simp only [e1, e2, e3, e4] at *
  all_goals exact ⟨PLe.of_eq (by unfold rcapI; simp [*])⟩
theorem refAbs_pure (n : Int) (h : n.natAbs ≤ 4000000000000000000) : APure C 127 [I n] (I (absI n)) := by
  have e : wrapK IntKind.i64 (0 - n) = 0 - n := w64 (by omega)
  refine APure.of_body good [] (fn := Tryz.f127) (by kernel_rfl) (by kernel_rfl) rfl rfl (by kernel_rfl) rfl (by kernel_rfl) ?_
  conv => whnf
  repeat' (first
    | (refine codeK_sound good (mu := []) ?_; conv => whnf)
    | ((first | rw [wl0] | rw [wl1] | rw [wl2] | rw [wl3] | rw [wl4] | rw [wl5]); conv => whnf)
    | (refine SBool.mk (fun _ => ?_) (fun h => absurd (of_decide_eq_true rfl) h); conv => whnf)
    | (refine SBool.mk (fun h => absurd h (of_decide_eq_false rfl)) (fun _ => ?_); conv => whnf)
    | (refine SBool.mk (fun h => ?_) (fun h => ?_) <;> conv => whnf)
    | (refine SEx.mk _ (by first | exact rfl | exact ⟨of_decide_eq_true rfl, rfl⟩) ?_; conv => whnf)
    | (refine SAll.mk (fun _ => ?_); conv => whnf)
    | (refine SAnd.mk ⟨by intro c hc; simp at hc; first | (subst hc; rfl) | ((repeat' (rcases hc with rfl | hc)) <;> first | rfl | (subst hc; rfl)), by (simp; first | done | omega), by (simp; first | done | omega)⟩ ?_; conv => whnf)
    | (refine SAnd.mk (by first | exact rfl | kernel_rfl | omega | decide) ?_; conv => whnf)
    | fail)
  exact ⟨PLe.of_eq (by rw [e]; rfl)⟩
theorem refLoss_pure (a b : Int) : APure C 54 [.agg [I a, I b]] (I (firstOf [within a 0 1000, within b 0 1000, ordE a b])) := by
  refine APure.of_body good [] (fn := Tryz.f54) (by kernel_rfl) (by kernel_rfl) rfl rfl (by kernel_rfl) rfl (by kernel_rfl) ?_
  conv => whnf
  repeat' (first
    | (refine codeK_sound good (mu := []) ?_; conv => whnf)
    | ((first | rw [wl0] | rw [wl1] | rw [wl2] | rw [wl3] | rw [wl4] | rw [wl5]); conv => whnf)
    | (refine SBool.mk (fun _ => ?_) (fun h => absurd (of_decide_eq_true rfl) h); conv => whnf)
    | (refine SBool.mk (fun h => absurd h (of_decide_eq_false rfl)) (fun _ => ?_); conv => whnf)
    | (refine SBool.mk (fun h => ?_) (fun h => ?_) <;> conv => whnf)
    | (refine SEx.mk _ (by first | exact refInterval_pure _ _ _ _) ?_; conv => whnf)
    | (refine SEx.mk _ (by first | exact rfl | exact ⟨of_decide_eq_true rfl, rfl⟩) ?_; conv => whnf)
    | (refine SAll.mk (fun _ => ?_); conv => whnf)
    | (refine SAnd.mk ⟨by intro c hc; simp at hc; first | (subst hc; rfl) | ((repeat' (rcases hc with rfl | hc)) <;> first | rfl | (subst hc; rfl)), by (simp; first | done | omega), by (simp; first | done | omega)⟩ ?_; conv => whnf)
    | (refine SAnd.mk (by first | exact rfl | kernel_rfl | omega | decide | exact refInterval_pure _ _ _ _) ?_; conv => whnf)
    | fail)
  exact ⟨PLe.refl _⟩
theorem refMixed_pure (a b : Sg) (band : Int) (ha : Ok a) (hb : Ok b) (h0 : 0 ≤ band ∧ band ≤ 10000) : APure C 51 [.agg (sc a), .agg (sc b), I band] (.agg (rc (mixR a b band))) := by
  have fa := ha.fit.mono (n := 1000000) (by decide); have fb := hb.fit.mono (n := 1000000) (by decide)
  have a1 := sq_le ha.fit.c; have a2 := ha.sq_pos; have b1 := sq_le hb.fit.c; have b2 := hb.sq_pos
  have d1 := dif_bound ha.fit; have d2 := dif_bound hb.fit
  have e1 : wrapK IntKind.i64 (dif a + dif b) = dif a + dif b := w64 (by omega)
  have e2 : wrapK IntKind.i64 (sq a.c + sq b.c) = sq a.c + sq b.c := w64 (by omega)
  have hc := refCaptured_pure a b band ha hb h0
  unfold mixR
  rcases capI_or a b band with hk | hk | hk
  · rw [hk] at hc
    rw [hk]
    refine APure.of_body good [] (fn := Tryz.f51) (by kernel_rfl) (by kernel_rfl) rfl rfl (by kernel_rfl) rfl (by kernel_rfl) ?_
    conv => whnf
    repeat' (first
      | (refine codeK_sound good (mu := []) ?_; conv => whnf)
      | ((first | rw [wl0] | rw [wl1] | rw [wl2] | rw [wl3] | rw [wl4] | rw [wl5]); conv => whnf)
      | (refine SBool.mk (fun _ => ?_) (fun h => absurd (of_decide_eq_true rfl) h); conv => whnf)
      | (refine SBool.mk (fun h => absurd h (of_decide_eq_false rfl)) (fun _ => ?_); conv => whnf)
      | (refine SBool.mk (fun h => ?_) (fun h => ?_) <;> conv => whnf)
      | (refine SEx.mk _ (by first | exact hc | exact refNeedle_pure a ha) ?_; conv => whnf)
      | (refine SEx.mk _ (by first | exact rfl | exact ⟨of_decide_eq_true rfl, rfl⟩) ?_; conv => whnf)
      | (refine SAll.mk (fun _ => ?_); conv => whnf)
      | (refine SAnd.mk (by first | exact hc) ?_; conv => whnf)
      | (refine SAnd.mk ⟨by intro c hc; simp at hc; first | (subst hc; rfl) | ((repeat' (rcases hc with rfl | hc)) <;> first | rfl | (subst hc; rfl)), by (simp; first | done | omega), by (simp; first | done | omega)⟩ ?_; conv => whnf)
      | (refine SAnd.mk (by first | exact rfl | kernel_rfl | omega | decide | exact hc | exact refNeedle_pure a ha) ?_; conv => whnf)
      | fail)
    exact ⟨PLe.refl _⟩
  · rw [hk] at hc
    rw [hk]
    refine APure.of_body good [] (fn := Tryz.f51) (by kernel_rfl) (by kernel_rfl) rfl rfl (by kernel_rfl) rfl (by kernel_rfl) ?_
    conv => whnf
    repeat' (first
      | (refine codeK_sound good (mu := []) ?_; conv => whnf)
      | ((first | rw [wl0] | rw [wl1] | rw [wl2] | rw [wl3] | rw [wl4] | rw [wl5]); conv => whnf)
      | (refine SBool.mk (fun _ => ?_) (fun h => absurd (of_decide_eq_true rfl) h); conv => whnf)
      | (refine SBool.mk (fun h => absurd h (of_decide_eq_false rfl)) (fun _ => ?_); conv => whnf)
      | (refine SBool.mk (fun h => ?_) (fun h => ?_) <;> conv => whnf)
      | (refine SEx.mk _ (by first | exact hc | exact refNeedle_pure b hb) ?_; conv => whnf)
      | (refine SEx.mk _ (by first | exact rfl | exact ⟨of_decide_eq_true rfl, rfl⟩) ?_; conv => whnf)
      | (refine SAll.mk (fun _ => ?_); conv => whnf)
      | (refine SAnd.mk (by first | exact hc) ?_; conv => whnf)
      | (refine SAnd.mk ⟨by intro c hc; simp at hc; first | (subst hc; rfl) | ((repeat' (rcases hc with rfl | hc)) <;> first | rfl | (subst hc; rfl)), by (simp; first | done | omega), by (simp; first | done | omega)⟩ ?_; conv => whnf)
      | (refine SAnd.mk (by first | exact rfl | kernel_rfl | omega | decide | exact hc | exact refNeedle_pure b hb) ?_; conv => whnf)
      | fail)
    exact ⟨PLe.refl _⟩
  · rw [hk] at hc
    rw [hk]
    refine APure.of_body good [] (fn := Tryz.f51) (by kernel_rfl) (by kernel_rfl) rfl rfl (by kernel_rfl) rfl (by kernel_rfl) ?_
    conv => whnf
    repeat' (first
      | (refine codeK_sound good (mu := []) ?_; conv => whnf)
      | ((first | rw [wl0] | rw [wl1] | rw [wl2] | rw [wl3] | rw [wl4] | rw [wl5]); conv => whnf)
      | (refine SBool.mk (fun _ => ?_) (fun h => absurd (of_decide_eq_true rfl) h); conv => whnf)
      | (refine SBool.mk (fun h => absurd h (of_decide_eq_false rfl)) (fun _ => ?_); conv => whnf)
      | (refine SBool.mk (fun h => ?_) (fun h => ?_) <;> conv => whnf)
      | (refine SEx.mk _ (by first | exact hc | exact refDifference_pure a ha.fit | exact refDifference_pure b hb.fit | exact refSquareS_pure a fa.c | exact refSquareS_pure b fb.c) ?_; conv => whnf)
      | (refine SEx.mk _ (by first | exact rfl | exact ⟨of_decide_eq_true rfl, rfl⟩) ?_; conv => whnf)
      | (refine SAll.mk (fun _ => ?_); conv => whnf)
      | (refine SAnd.mk (by first | exact hc) ?_; conv => whnf)
      | (refine SAnd.mk ⟨by intro c hc; simp at hc; first | (subst hc; rfl) | ((repeat' (rcases hc with rfl | hc)) <;> first | rfl | (subst hc; rfl)), by (simp; first | done | omega), by (simp; first | done | omega)⟩ ?_; conv => whnf)
      | (refine SAnd.mk (by first | exact rfl | kernel_rfl | omega | decide | exact hc | exact refDifference_pure a ha.fit | exact refDifference_pure b hb.fit | exact refSquareS_pure a fa.c | exact refSquareS_pure b fb.c) ?_; conv => whnf)
      | fail)
    rw [e1, e2]
    conv => whnf
    repeat' (first
      | (refine codeK_sound good (mu := []) ?_; conv => whnf)
      | ((first | rw [wl0] | rw [wl1] | rw [wl2] | rw [wl3] | rw [wl4] | rw [wl5]); conv => whnf)
      | (refine SBool.mk (fun _ => ?_) (fun h => absurd (of_decide_eq_true rfl) h); conv => whnf)
      | (refine SBool.mk (fun h => absurd h (of_decide_eq_false rfl)) (fun _ => ?_); conv => whnf)
      | (refine SBool.mk (fun h => ?_) (fun h => ?_) <;> conv => whnf)
      | (refine SEx.mk _ (by first | exact refLowest_pure _ _ (by omega) (by omega) (by omega)) ?_; conv => whnf)
      | (refine SEx.mk _ (by first | exact rfl | exact ⟨of_decide_eq_true rfl, rfl⟩) ?_; conv => whnf)
      | (refine SAll.mk (fun _ => ?_); conv => whnf)
      | (refine SAnd.mk ⟨by intro c hc; simp at hc; first | (subst hc; rfl) | ((repeat' (rcases hc with rfl | hc)) <;> first | rfl | (subst hc; rfl)), by (simp; first | done | omega), by (simp; first | done | omega)⟩ ?_; conv => whnf)
      | (refine SAnd.mk (by first | exact rfl | kernel_rfl | omega | decide | exact refLowest_pure _ _ (by omega) (by omega) (by omega)) ?_; conv => whnf)
      | fail)
    exact ⟨PLe.refl _⟩
end Go.Proofs.Ab.Tone
end
section
/- The reference's intervals. -/
set_option maxRecDepth 100000
set_option linter.unusedVariables false
set_option linter.unusedSimpArgs false
namespace Go.Proofs.Ab.Tone
open Go Go.RowKit Go.Proofs.Ab
theorem refLost_pure (r : Rx) (s : Sg) (lo hi : Int) (hr : RxOk r) (hv : Ok s) (h1 : 0 ≤ lo ∧ lo ≤ 1000) (h2 : 0 ≤ hi ∧ hi ≤ 1000) :
    APure C 56 [.agg (xc r), .agg (sc s), .agg [I lo, I hi]] (.agg [I (min (leftI r s lo) (leftI r s hi)), I (max (leftI r s lo) (leftI r s hi))]) := by
  have hf := hv.fit.mono (n := 1000000) (by decide)
  have b1 := dif_bound hv.fit; have b2 := sq_le hv.fit.c; have b3 := hv.sq_pos
  have e1 : wrapK IntKind.i64 (1000 - lo) = 1000 - lo := w64 (by omega)
  have e1' : wrapK IntKind.i64 (1000 - hi) = 1000 - hi := w64 (by omega)
  have p1 : (dif s * (1000 - lo)).natAbs ≤ 400000000 * 1000 := by rw [Int.natAbs_mul]; exact Nat.mul_le_mul (by omega) (by omega)
  have p2 : (dif s * (1000 - hi)).natAbs ≤ 400000000 * 1000 := by rw [Int.natAbs_mul]; exact Nat.mul_le_mul (by omega) (by omega)
  have e2 : wrapK IntKind.i64 (dif s * (1000 - lo)) = dif s * (1000 - lo) := w64 (by omega)
  have e2' : wrapK IntKind.i64 (dif s * (1000 - hi)) = dif s * (1000 - hi) := w64 (by omega)
  have e3 : wrapK IntKind.i64 (sq s.c * 1000) = 1000 * sq s.c := (w64 (by omega)).trans (Int.mul_comm _ _)
  refine APure.of_body good [] (fn := Tryz.f56) (by kernel_rfl) (by kernel_rfl) rfl rfl (by kernel_rfl) rfl (by kernel_rfl) ?_
  conv => whnf
  repeat' (first
    | (refine codeK_sound good (mu := []) ?_; conv => whnf)
    | ((first | rw [wl0] | rw [wl1] | rw [wl2] | rw [wl3] | rw [wl4] | rw [wl5]); conv => whnf)
    | (refine SBool.mk (fun _ => ?_) (fun h => absurd (of_decide_eq_true rfl) h); conv => whnf)
    | (refine SBool.mk (fun h => absurd h (of_decide_eq_false rfl)) (fun _ => ?_); conv => whnf)
    | (refine SBool.mk (fun h => ?_) (fun h => ?_) <;> conv => whnf)
    | (refine SEx.mk _ (by first | exact refDifference_pure s hv.fit | exact refSquareS_pure s hf.c) ?_; conv => whnf)
    | (refine SEx.mk _ (by first | exact rfl | exact ⟨of_decide_eq_true rfl, rfl⟩) ?_; conv => whnf)
    | (refine SAll.mk (fun _ => ?_); conv => whnf)
    | (refine SAnd.mk ⟨by intro c hc; simp at hc; first | (subst hc; rfl) | ((repeat' (rcases hc with rfl | hc)) <;> first | rfl | (subst hc; rfl)), by (simp; first | done | omega), by (simp; first | done | omega)⟩ ?_; conv => whnf)
    | (refine SAnd.mk (by first | exact rfl | kernel_rfl | omega | decide | exact refDifference_pure s hv.fit | exact refSquareS_pure s hf.c) ?_; conv => whnf)
    | fail)
  rw [e1, e2, e3]
  conv => whnf
  repeat' (first
    | (refine codeK_sound good (mu := []) ?_; conv => whnf)
    | ((first | rw [wl0] | rw [wl1] | rw [wl2] | rw [wl3] | rw [wl4] | rw [wl5]); conv => whnf)
    | (refine SBool.mk (fun _ => ?_) (fun h => absurd (of_decide_eq_true rfl) h); conv => whnf)
    | (refine SBool.mk (fun h => absurd h (of_decide_eq_false rfl)) (fun _ => ?_); conv => whnf)
    | (refine SBool.mk (fun h => ?_) (fun h => ?_) <;> conv => whnf)
    | (refine SEx.mk _ (by first | exact refShown_pure r hr _ _ (by omega) (by omega) (by omega) | exact refDifference_pure s hv.fit | exact refSquareS_pure s hf.c) ?_; conv => whnf)
    | (refine SEx.mk _ (by first | exact rfl | exact ⟨of_decide_eq_true rfl, rfl⟩) ?_; conv => whnf)
    | (refine SAll.mk (fun _ => ?_); conv => whnf)
    | (refine SAnd.mk ⟨by intro c hc; simp at hc; first | (subst hc; rfl) | ((repeat' (rcases hc with rfl | hc)) <;> first | rfl | (subst hc; rfl)), by (simp; first | done | omega), by (simp; first | done | omega)⟩ ?_; conv => whnf)
    | (refine SAnd.mk (by first | exact rfl | kernel_rfl | omega | decide | exact refShown_pure r hr _ _ (by omega) (by omega) (by omega) | exact refDifference_pure s hv.fit | exact refSquareS_pure s hf.c) ?_; conv => whnf)
    | fail)
  rw [e1', e2', e3]
  conv => whnf
  repeat' (first
    | (refine codeK_sound good (mu := []) ?_; conv => whnf)
    | ((first | rw [wl0] | rw [wl1] | rw [wl2] | rw [wl3] | rw [wl4] | rw [wl5]); conv => whnf)
    | (refine SBool.mk (fun _ => ?_) (fun h => absurd (of_decide_eq_true rfl) h); conv => whnf)
    | (refine SBool.mk (fun h => absurd h (of_decide_eq_false rfl)) (fun _ => ?_); conv => whnf)
    | (refine SBool.mk (fun h => ?_) (fun h => ?_) <;> conv => whnf)
    | (refine SEx.mk _ (by first | exact refShown_pure r hr _ _ (by omega) (by omega) (by omega)) ?_; conv => whnf)
    | (refine SEx.mk _ (by first | exact rfl | exact ⟨of_decide_eq_true rfl, rfl⟩) ?_; conv => whnf)
    | (refine SAll.mk (fun _ => ?_); conv => whnf)
    | (refine SAnd.mk ⟨by intro c hc; simp at hc; first | (subst hc; rfl) | ((repeat' (rcases hc with rfl | hc)) <;> first | rfl | (subst hc; rfl)), by (simp; first | done | omega), by (simp; first | done | omega)⟩ ?_; conv => whnf)
    | (refine SAnd.mk (by first | exact rfl | kernel_rfl | omega | decide | exact refShown_pure r hr _ _ (by omega) (by omega) (by omega)) ?_; conv => whnf)
    | fail)
  exact ⟨PLe.refl _⟩
end Go.Proofs.Ab.Tone
end
section
/- The reference's noise and turns. -/
set_option maxRecDepth 100000
set_option linter.unusedVariables false
set_option linter.unusedSimpArgs false
namespace Go.Proofs.Ab.Tone
open Go Go.RowKit Go.Proofs.Ab
theorem refCompare_raw (a b c d : Int) : APure C 81 [.agg [I a, I b], .agg [I c, I d]] (I (if wrap64 (a * d) < wrap64 (c * b) then -1 else if wrap64 (c * b) < wrap64 (a * d) then 1 else 0)) := by
  refine APure.of_body good [] (fn := Tryz.f81) (by kernel_rfl) (by kernel_rfl) rfl rfl (by kernel_rfl) rfl (by kernel_rfl) ?_
  conv => whnf
  repeat' (first
    | (refine codeK_sound good (mu := []) ?_; conv => whnf)
    | ((first | rw [wl0] | rw [wl1] | rw [wl2] | rw [wl3] | rw [wl4] | rw [wl5]); conv => whnf)
    | (refine SBool.mk (fun _ => ?_) (fun h => absurd (of_decide_eq_true rfl) h); conv => whnf)
    | (refine SBool.mk (fun h => absurd h (of_decide_eq_false rfl)) (fun _ => ?_); conv => whnf)
    | (refine SBool.mk (fun h => ?_) (fun h => ?_) <;> conv => whnf)
    | (refine SEx.mk _ (by first | exact rfl | exact ⟨of_decide_eq_true rfl, rfl⟩) ?_; conv => whnf)
    | (refine SAll.mk (fun _ => ?_); conv => whnf)
    | (refine SAnd.mk ⟨by intro c hc; simp at hc; first | (subst hc; rfl) | ((repeat' (rcases hc with rfl | hc)) <;> first | rfl | (subst hc; rfl)), by (simp; first | done | omega), by (simp; first | done | omega)⟩ ?_; conv => whnf)
    | (refine SAnd.mk (by first | exact rfl | kernel_rfl | omega | decide) ?_; conv => whnf)
    | fail)
  all_goals (refine ⟨PLe.of_eq ?_⟩)
  all_goals (have h1 := h)
  all_goals (simp only [wrapK] at *)
  all_goals first | (rw [if_pos (by assumption)]) | (rw [if_neg (by assumption), if_pos (by assumption)]) | (rw [if_neg (by assumption), if_neg (by assumption)])
end Go.Proofs.Ab.Tone
end
