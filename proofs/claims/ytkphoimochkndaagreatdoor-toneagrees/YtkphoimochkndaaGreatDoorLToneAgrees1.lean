/- The proof of ToneAgrees (see the last theorem): for every input that can be read the law returns true; the listed package-level variables are as the program's text lays them. -/
import Derived.Test.YtkphoimochkndaaGreatDoorK6
section
/- More parameters' shapes. -/
set_option maxRecDepth 100000
set_option linter.unusedVariables false
set_option linter.unusedSimpArgs false
namespace Go.Proofs.Ab.Tone2
open Go Go.RowKit Go.Proofs.Ab Go.Proofs.Ab.Tone
theorem wf_of {k : IntKind} {n : Int} (h : (Lit.int k n).wf = true) : k.min ≤ n ∧ n ≤ k.max := by
  have h' : (decide (k.min ≤ n) && decide (n ≤ k.max)) = true := h
  rwa [Bool.and_eq_true, decide_eq_true_eq, decide_eq_true_eq] at h'
theorem inU16 {n : Int} (h : (Lit.int .u16 n).wf = true) : 0 ≤ n ∧ n ≤ 65535 := wf_of h
end Go.Proofs.Ab.Tone2
end
section
/- The reference's signals and its follower; the law's lists. -/
set_option maxRecDepth 100000
set_option linter.unusedVariables false
set_option linter.unusedSimpArgs false
namespace Go.Proofs.Ab.Tone2
open Go Go.RowKit Go.Proofs.Ab Go.Proofs.Ab.Tone
theorem checks_drop {xs : List Sg} {k : Nat} (h : k < xs.length) : firstOf ((xs.drop k).map checkE) = if checkE xs[k] = 0 then firstOf ((xs.drop (k + 1)).map checkE) else checkE xs[k] := by
  rw [List.drop_eq_getElem_cons h]
  rfl
theorem refCheckSignal_pure' (s : Sg) : APure Tone.C 18 [.agg (sc s)] (I (checkE s)) := refCheckE_eq s ▸ refCheckSignal_pure s
theorem checkL_small {xs : List Sg} (h0 : ¬ ((xs.map sc).length : Int) = 0) (h1 : ¬ 256 < ((xs.map sc).length : Int)) : checkL xs = firstOf (xs.map checkE) := by
  have e0 : (xs.map sc).length = xs.length := by simp
  rw [e0] at h0 h1
  have hz : sizedE xs.length 256 = 0 := by
    unfold sizedE
    rw [if_neg (by omega), if_neg (by omega)]
  unfold checkL
  rw [hz]
  simp only [firstOf]
  by_cases h : firstOf (xs.map checkE) = 0 <;> simp [h]
theorem checkL_big {xs : List Sg} (h1 : 256 < ((xs.map sc).length : Int)) : checkL xs = 5 := by
  have e0 : (xs.map sc).length = xs.length := by simp
  rw [e0] at h1
  have hz : sizedE xs.length 256 = 5 := by
    unfold sizedE
    rw [if_neg (by omega), if_pos (by omega)]
  unfold checkL
  rw [hz]
  simp [firstOf]
theorem checkL_none {xs : List Sg} (h1 : ((xs.map sc).length : Int) = 0) : checkL xs = 12 := by
  have e0 : (xs.map sc).length = xs.length := by simp
  rw [e0] at h1
  have hz : sizedE xs.length 256 = 12 := by
    unfold sizedE
    rw [if_pos (by omega)]
  unfold checkL
  rw [hz]
  simp [firstOf]
theorem refSignals_pure {m : Int} (xs : List Sg) (hl : xs.length ≤ 1000000) : APure (C m) 44 [.seq 6 (xs.map sc)] (I (checkL xs)) := by
  have e0 : (xs.map sc).length = xs.length := by simp
  refine APure.of_body good [] (fn := Tryz.f44) (by kernel_rfl) (by kernel_rfl) rfl rfl (by kernel_rfl) rfl (by kernel_rfl) ?_
  conv => whnf
  repeat' (first
    | (refine codeK_sound good (mu := []) ?_; conv => whnf)
    | ((first | rw [wl0] | rw [wl1] | rw [wl2] | rw [wl3] | rw [wl4] | rw [wl5]); conv => whnf)
    | (refine SBool.mk (fun _ => ?_) (fun h => absurd (of_decide_eq_true rfl) h); conv => whnf)
    | (refine SBool.mk (fun h => absurd h (of_decide_eq_false rfl)) (fun _ => ?_); conv => whnf)
    | (refine SBool.mk (fun h => ?_) (fun h => ?_) <;> conv => whnf)
    | (refine SEx.mk _ (by first | exact up (refWhen_pure _ _) | exact up (refFirst2_pure _ _)) ?_; conv => whnf)
    | (refine SEx.mk _ (by first | exact rfl | exact ⟨of_decide_eq_true rfl, rfl⟩) ?_; conv => whnf)
    | (refine SAll.mk (fun _ => ?_); conv => whnf)
    | (refine SAnd.mk ⟨by intro c hc; simp at hc; first | (subst hc; rfl) | ((repeat' (rcases hc with rfl | hc)) <;> first | rfl | (subst hc; rfl)), by (simp; first | done | omega), by (simp; first | done | omega)⟩ ?_; conv => whnf)
    | (refine SAnd.mk (by first | exact rfl | kernel_rfl | omega | decide | exact up (refWhen_pure _ _) | exact up (refFirst2_pure _ _)) ?_; conv => whnf)
    | fail)
  · rename_i h0 h1
    exact absurd h1 (by omega)
  · rename_i h0 h1
    exact ⟨PLe.of_eq (by rw [checkL_none h0]; rfl)⟩
  · rename_i h0 h1
    exact ⟨PLe.of_eq (by rw [checkL_big h]; rfl)⟩
  · rename_i h0 h1
    have hc := checkL_small h0 h
    refine ⟨AWp.loop (ι := { k : Nat // k ≤ xs.length ∧ firstOf (xs.map checkE) = firstOf ((xs.drop k).map checkE) }) (fun k => ⟨[(4, .p (I k.1)), (0, .p (.seq 6 (xs.map sc)))], [], [], 0, [], [], []⟩) (fun k => xs.length - k.1) ⟨0, by simp⟩ ?_ ?_⟩
    · skip
      · refine SLe.of [] [] rfl rfl ?_
        conv => whnf
        repeat' (first
        | exact True.intro
        | (refine SAnd.mk (PLe.of_eq (by simp only [wrapK]; rw [wrap_id (by first | omega | (simp only; done) | (simp only; omega) | simp) (by first | omega | (simp only; done) | (simp only; omega) | simp)]; simp)) ?_; conv => whnf)
        | (refine SAnd.mk (PLe.refl _) ?_; conv => whnf)
        | (refine SAnd.mk (PLeL.refl _) ?_; conv => whnf)
        | (refine SAnd.mk (PLe.of_eq (by simp)) ?_; conv => whnf)
        | (refine SAnd.mk rfl ?_; conv => whnf)
        | (refine SAnd.mk ⟨rfl, rfl⟩ ?_; conv => whnf)
        | (refine SAnd.mk ⟨rfl, rfl, rfl⟩ ?_; conv => whnf))
    · rintro ⟨k, hk, he⟩
      refine codeK_sound good (mu := []) ?_
      conv => whnf
      refine SBool.mk (fun hq => ?_) (fun hq => ?_)
      · conv => whnf
        have hkl : k < xs.length := by simpa using hq
        refine SEx.mk (sc xs[k]) (by simp [hkl]) ?_
        conv => whnf
        conv => whnf
        repeat' (first
          | (refine codeK_sound good (mu := []) ?_; conv => whnf)
          | ((first | rw [wl0] | rw [wl1] | rw [wl2] | rw [wl3] | rw [wl4] | rw [wl5]); conv => whnf)
          | (refine SBool.mk (fun _ => ?_) (fun h => absurd (of_decide_eq_true rfl) h); conv => whnf)
          | (refine SBool.mk (fun h => absurd h (of_decide_eq_false rfl)) (fun _ => ?_); conv => whnf)
          | (refine SBool.mk (fun h => ?_) (fun h => ?_) <;> conv => whnf)
          | (refine SEx.mk _ (by first | exact up (refCheckSignal_pure' xs[k])) ?_; conv => whnf)
          | (refine SEx.mk _ (by first | exact rfl | exact ⟨of_decide_eq_true rfl, rfl⟩) ?_; conv => whnf)
          | (refine SAll.mk (fun _ => ?_); conv => whnf)
          | (refine SAnd.mk ⟨by intro c hc; simp at hc; first | (subst hc; rfl) | ((repeat' (rcases hc with rfl | hc)) <;> first | rfl | (subst hc; rfl)), by (simp; first | done | omega), by (simp; first | done | omega)⟩ ?_; conv => whnf)
          | (refine SAnd.mk (by first | exact rfl | kernel_rfl | omega | decide | exact up (refCheckSignal_pure' xs[k])) ?_; conv => whnf)
          | fail)
        · refine ⟨⟨k + 1, by omega, by rw [he, checks_drop hkl, if_pos h]⟩, by simp only; omega, ?_⟩
          skip
          · refine SLe.of [] [] rfl rfl ?_
            conv => whnf
            repeat' (first
            | exact True.intro
            | (refine SAnd.mk (PLe.of_eq (by simp only [wrapK]; rw [wrap_id (by first | omega | (simp only; done) | (simp only; omega) | simp) (by first | omega | (simp only; done) | (simp only; omega) | simp)]; simp)) ?_; conv => whnf)
            | (refine SAnd.mk (PLe.refl _) ?_; conv => whnf)
            | (refine SAnd.mk (PLeL.refl _) ?_; conv => whnf)
            | (refine SAnd.mk (PLe.of_eq (by simp)) ?_; conv => whnf)
            | (refine SAnd.mk rfl ?_; conv => whnf)
            | (refine SAnd.mk ⟨rfl, rfl⟩ ?_; conv => whnf)
            | (refine SAnd.mk ⟨rfl, rfl, rfl⟩ ?_; conv => whnf))
        · exact ⟨PLe.of_eq (by rw [hc, he, checks_drop hkl, if_neg h])⟩
      · conv => whnf
        have : k = xs.length := by simp at hq; omega
        exact ⟨PLe.of_eq (by rw [hc, he, this]; simp [firstOf])⟩
/-- The law's list of signals as the program's. -/
theorem signals_pure {m : Int} (xs : List Sg) (hl : xs.length ≤ 1000000) : APure (C m) 42 [.seq 6 (xs.map sc)] (.seq 6 (xs.map sc)) := by
  refine APure.of_body good [] (fn := Tryz.f42) (by kernel_rfl) (by kernel_rfl) rfl rfl (by kernel_rfl) rfl (by kernel_rfl) ?_
  conv => whnf
  repeat' (first
    | (refine codeK_sound good (mu := []) ?_; conv => whnf)
    | ((first | rw [wl0] | rw [wl1] | rw [wl2] | rw [wl3] | rw [wl4] | rw [wl5]); conv => whnf)
    | (refine SBool.mk (fun _ => ?_) (fun h => absurd (of_decide_eq_true rfl) h); conv => whnf)
    | (refine SBool.mk (fun h => absurd h (of_decide_eq_false rfl)) (fun _ => ?_); conv => whnf)
    | (refine SBool.mk (fun h => ?_) (fun h => ?_) <;> conv => whnf)
    | (refine SEx.mk _ (by first | exact rfl | exact ⟨of_decide_eq_true rfl, rfl⟩) ?_; conv => whnf)
    | (refine SAll.mk (fun _ => ?_); conv => whnf)
    | (refine SAnd.mk ⟨by intro c hc; simp at hc; first | (subst hc; rfl) | ((repeat' (rcases hc with rfl | hc)) <;> first | rfl | (subst hc; rfl)), by (simp; first | done | omega), by (simp; first | done | omega)⟩ ?_; conv => whnf)
    | (refine SAnd.mk (by first | exact rfl | kernel_rfl | omega | decide) ?_; conv => whnf)
    | fail)
  refine ⟨AWp.loop (ι := { k : Nat // k ≤ xs.length }) (fun k => ⟨[(8, .p (I k.1)), (7, .p (I xs.length)), (6, .p (.seq 6 (xs.map sc))), (3, .own 0)], [], [(0, (32, 6, (xs.take k.1).map sc))], 1, [], [], []⟩) (fun k => xs.length - k.1) ⟨0, by simp⟩ ?_ ?_⟩
  · refine SLe.row 3 32 6 ?_
    conv => whnf
    skip
    · refine SLe.of [] [(0, 0)] rfl rfl ?_
      conv => whnf
      repeat' (first
      | exact True.intro
      | (refine SAnd.mk (PLe.of_eq (by simp only [wrapK]; rw [wrap_id (by first | omega | (simp only; done) | (simp only; omega) | simp) (by first | omega | (simp only; done) | (simp only; omega) | simp)]; simp)) ?_; conv => whnf)
      | (refine SAnd.mk (PLe.refl _) ?_; conv => whnf)
      | (refine SAnd.mk (PLeL.refl _) ?_; conv => whnf)
      | (refine SAnd.mk (PLe.of_eq (by simp)) ?_; conv => whnf)
      | (refine SAnd.mk rfl ?_; conv => whnf)
      | (refine SAnd.mk ⟨rfl, rfl⟩ ?_; conv => whnf)
      | (refine SAnd.mk ⟨rfl, rfl, rfl⟩ ?_; conv => whnf))
  · rintro ⟨k, hk⟩
    refine codeK_sound good (mu := []) ?_
    conv => whnf
    refine SBool.mk (fun hc => ?_) (fun hc => ?_)
    · conv => whnf
      have hkl : k < xs.length := by simpa using hc
      have hsome : 0 ≤ (k : Int) ∧ (xs.map sc)[((k : Int)).toNat]? = some (sc xs[k]) := ⟨by omega, by show (xs.map sc)[k]? = _; simp [hkl]⟩
      conv => whnf
      repeat' (first
        | (refine codeK_sound good (mu := []) ?_; conv => whnf)
        | ((first | rw [wl0] | rw [wl1] | rw [wl2] | rw [wl3] | rw [wl4] | rw [wl5]); conv => whnf)
        | (refine SBool.mk (fun _ => ?_) (fun h => absurd (of_decide_eq_true rfl) h); conv => whnf)
        | (refine SBool.mk (fun h => absurd h (of_decide_eq_false rfl)) (fun _ => ?_); conv => whnf)
        | (refine SBool.mk (fun h => ?_) (fun h => ?_) <;> conv => whnf)
        | (refine SEx.mk _ (by first | exact hsome) ?_; conv => whnf)
        | (refine SEx.mk _ (by first | exact rfl | exact ⟨of_decide_eq_true rfl, rfl⟩) ?_; conv => whnf)
        | (refine SAll.mk (fun _ => ?_); conv => whnf)
        | (refine SAnd.mk (by first | exact hsome) ?_; conv => whnf)
        | (refine SAnd.mk ⟨by intro c hc; simp at hc; first | (subst hc; rfl) | ((repeat' (rcases hc with rfl | hc)) <;> first | rfl | (subst hc; rfl)), by (simp; first | done | omega), by (simp; first | done | omega)⟩ ?_; conv => whnf)
        | (refine SAnd.mk (by first | exact rfl | kernel_rfl | omega | decide | exact hsome) ?_; conv => whnf)
        | fail)
      refine ⟨⟨k + 1, by omega⟩, by simp only; omega, ?_⟩
      skip
      · refine SLe.of [] [(0, 2)] rfl rfl ?_
        conv => whnf
        repeat' (first
        | exact True.intro
        | (refine SAnd.mk ((take_map_succ hkl _).symm) ?_; conv => whnf)
        | (refine SAnd.mk (PLe.of_eq (by simp only [wrapK]; rw [wrap_id (by first | omega | (simp only; done) | (simp only; omega) | simp) (by first | omega | (simp only; done) | (simp only; omega) | simp)]; simp)) ?_; conv => whnf)
        | (refine SAnd.mk (PLe.refl _) ?_; conv => whnf)
        | (refine SAnd.mk (PLeL.refl _) ?_; conv => whnf)
        | (refine SAnd.mk (PLe.of_eq (by simp)) ?_; conv => whnf)
        | (refine SAnd.mk rfl ?_; conv => whnf)
        | (refine SAnd.mk ⟨rfl, rfl⟩ ?_; conv => whnf)
        | (refine SAnd.mk ⟨rfl, rfl, rfl⟩ ?_; conv => whnf))
    · conv => whnf
      have : k = xs.length := by simp at hc; omega
      subst this
      exact ⟨PLe.of_eq (by simp)⟩
end Go.Proofs.Ab.Tone2
end
section
/- The law of the depths. -/
set_option maxRecDepth 100000
set_option linter.unusedVariables false
set_option linter.unusedSimpArgs false
namespace Go.Proofs.Ab.Tone2
open Go Go.RowKit Go.Proofs.Ab Go.Proofs.Ab.Tone
theorem eq_ratio_self (a b : Int) : EqAgg Tone.C 28 [I a, I b] [I a, I b] true := by
  have h := eq_ratio a b a b
  have e : decide (a = a ∧ b = b) = true := by simp
  rw [e] at h
  exact h
section
attribute [local irreducible] APure
end
end Go.Proofs.Ab.Tone2
end
section
/- The law's looks at a signal and at a ratio; plain laws of ratios. -/
set_option maxRecDepth 100000
set_option linter.unusedVariables false
set_option linter.unusedSimpArgs false
namespace Go.Proofs.Ab.Tone2
open Go Go.RowKit Go.Proofs.Ab Go.Proofs.Ab.Tone
def near1 (a : G) (n : Int) : Prop := (-n ≤ a.re ∧ a.re ≤ n) ∧ (-n ≤ a.im ∧ a.im ≤ n)
def nearP (s : Sg) (n : Int) : Prop := checkE s = 0 ∧ near1 s.c n ∧ near1 s.l n ∧ near1 s.h n
instance (s : Sg) (n : Int) : Decidable (nearP s n) := by unfold nearP near1; infer_instance
theorem near_pure {m : Int} (s : Sg) (n : Int) (h0 : 0 ≤ n) (h1 : n ≤ 1000000) : APure (C m) 69 [.agg (sc s), I n] (Bo (decide (nearP s n))) := by
  have wn : wrapK IntKind.i64 (0 - n) = 0 - n := w64 (by omega)
  have hin : ∀ i : Nat, i < 3 → True := fun _ _ => True.intro
  refine APure.of_body good [] (fn := Tryz.f69) (by kernel_rfl) (by kernel_rfl) rfl rfl (by kernel_rfl) rfl (by kernel_rfl) ?_
  conv => whnf
  repeat' (first
    | (refine codeK_sound good (mu := []) ?_; conv => whnf)
    | ((first | rw [wl0] | rw [wl1] | rw [wl2] | rw [wl3] | rw [wl4] | rw [wl5]); conv => whnf)
    | (rw [wn]; conv => whnf)
    | (refine SBool.mk (fun _ => ?_) (fun h => absurd (of_decide_eq_true rfl) h); conv => whnf)
    | (refine SBool.mk (fun h => absurd h (of_decide_eq_false rfl)) (fun _ => ?_); conv => whnf)
    | (refine SBool.mk (fun h => ?_) (fun h => ?_) <;> conv => whnf)
    | refine SCode.mk (AWp.rounds 4 ?_)
    | (refine SEx.mk _ (by first | exact up (refCheckSignal_pure' s)) ?_; conv => whnf)
    | (refine SEx.mk _ (by first | exact rfl | exact ⟨of_decide_eq_true rfl, rfl⟩) ?_; conv => whnf)
    | (refine SAll.mk (fun _ => ?_); conv => whnf)
    | (refine SAnd.mk ⟨by intro c hc; simp at hc; first | (subst hc; rfl) | ((repeat' (rcases hc with rfl | hc)) <;> first | rfl | (subst hc; rfl)), by (simp; first | done | omega), by (simp; first | done | omega)⟩ ?_; conv => whnf)
    | (refine SAnd.mk (by first | exact rfl | kernel_rfl | omega | decide | exact up (refCheckSignal_pure' s)) ?_; conv => whnf)
    | fail)
  all_goals first
    | exact ⟨PLe.of_eq (by rw [decide_eq_false (by unfold nearP near1; omega)])⟩
    | exact ⟨PLe.of_eq (by rw [decide_eq_true (by unfold nearP near1; omega)])⟩
theorem refCheckRatio_pure {m : Int} (n d : Int) (hn : n.natAbs ≤ 999999999) (hd : 0 < d) (hd2 : d ≤ 999999999) (hg : Int.gcd n d = 1) : APure (C m) 145 [.agg [I n, I d]] (I 0) := by
  have c1 : APure (C m) 55 [I n, I (-999999999), I 999999999] (I 0) := by
    have h := up (m := m) (refRange_pure n (-999999999) 999999999)
    rwa [within_zero.2 (by omega)] at h
  have c2 : APure (C m) 55 [I d, I 1, I 999999999] (I 0) := by
    have h := up (m := m) (refRange_pure d 1 999999999)
    rwa [within_zero.2 (by omega)] at h
  have c3 : APure (C m) 95 [I n, I d] (I 1) := by
    have h := up (m := m) (refDivisor_pure n d (by omega) (by omega))
    rwa [hg] at h
  refine APure.of_body good [] (fn := Tryz.f145) (by kernel_rfl) (by kernel_rfl) rfl rfl (by kernel_rfl) rfl (by kernel_rfl) ?_
  conv => whnf
  repeat' (first
    | (refine codeK_sound good (mu := []) ?_; conv => whnf)
    | ((first | rw [wl0] | rw [wl1] | rw [wl2] | rw [wl3] | rw [wl4] | rw [wl5]); conv => whnf)
    | (refine SBool.mk (fun _ => ?_) (fun h => absurd (of_decide_eq_true rfl) h); conv => whnf)
    | (refine SBool.mk (fun h => absurd h (of_decide_eq_false rfl)) (fun _ => ?_); conv => whnf)
    | (refine SBool.mk (fun h => ?_) (fun h => ?_) <;> conv => whnf)
    | (refine SEx.mk _ (by first | exact c1 | exact c2 | exact c3 | exact up (refFirst2_pure _ _) | exact up (refWhen_pure _ _)) ?_; conv => whnf)
    | (refine SEx.mk _ (by first | exact rfl | exact ⟨of_decide_eq_true rfl, rfl⟩) ?_; conv => whnf)
    | (refine SAll.mk (fun _ => ?_); conv => whnf)
    | (refine SAnd.mk ⟨by intro c hc; simp at hc; first | (subst hc; rfl) | ((repeat' (rcases hc with rfl | hc)) <;> first | rfl | (subst hc; rfl)), by (simp; first | done | omega), by (simp; first | done | omega)⟩ ?_; conv => whnf)
    | (refine SAnd.mk (by first | exact rfl | kernel_rfl | omega | decide | exact c1 | exact c2 | exact c3 | exact up (refFirst2_pure _ _) | exact up (refWhen_pure _ _)) ?_; conv => whnf)
    | fail)
  exact ⟨PLe.refl _⟩
theorem right_pure {m : Int} (n d : Int) (hn : n.natAbs ≤ 999999999) (hd : 0 < d) (hd2 : d ≤ 999999999) (hg : Int.gcd n d = 1) : APure (C m) 71 [.agg [I n, I d]] (Bo true) := by
  refine APure.of_body good [] (fn := Tryz.f71) (by kernel_rfl) (by kernel_rfl) rfl rfl (by kernel_rfl) rfl (by kernel_rfl) ?_
  conv => whnf
  repeat' (first
    | (refine codeK_sound good (mu := []) ?_; conv => whnf)
    | ((first | rw [wl0] | rw [wl1] | rw [wl2] | rw [wl3] | rw [wl4] | rw [wl5]); conv => whnf)
    | (refine SBool.mk (fun _ => ?_) (fun h => absurd (of_decide_eq_true rfl) h); conv => whnf)
    | (refine SBool.mk (fun h => absurd h (of_decide_eq_false rfl)) (fun _ => ?_); conv => whnf)
    | (refine SBool.mk (fun h => ?_) (fun h => ?_) <;> conv => whnf)
    | (refine SEx.mk _ (by first | exact refCheckRatio_pure n d hn hd hd2 hg) ?_; conv => whnf)
    | (refine SEx.mk _ (by first | exact rfl | exact ⟨of_decide_eq_true rfl, rfl⟩) ?_; conv => whnf)
    | (refine SAll.mk (fun _ => ?_); conv => whnf)
    | (refine SAnd.mk ⟨by intro c hc; simp at hc; first | (subst hc; rfl) | ((repeat' (rcases hc with rfl | hc)) <;> first | rfl | (subst hc; rfl)), by (simp; first | done | omega), by (simp; first | done | omega)⟩ ?_; conv => whnf)
    | (refine SAnd.mk (by first | exact rfl | kernel_rfl | omega | decide | exact refCheckRatio_pure n d hn hd hd2 hg) ?_; conv => whnf)
    | fail)
  exact ⟨PLe.refl _⟩
theorem gcd_pos' {n d : Int} (hd : 0 < d) : 0 < Int.gcd n d := Int.gcd_pos_of_ne_zero_right n (by omega)
theorem low_scale {k n d : Int} (hk : 0 < k) : low (k * n) (k * d) = low n d := by
  have hg : ((Int.gcd (k * n) (k * d) : Nat) : Int) = k * (Int.gcd n d : Nat) := by
    rw [Int.gcd_mul_left, Int.natCast_mul]
    rw [Int.natAbs_of_nonneg (by omega)]
  unfold low
  rw [hg, Int.mul_ediv_mul_of_pos _ _ hk, Int.mul_ediv_mul_of_pos _ _ hk]
/-- A ratio in lowest terms, told apart from the quotient it is. -/
structure IsLow (x : R) (n d : Int) : Prop where
  den : 0 < x.den
  le : x.den ≤ d
  num : x.num.natAbs ≤ n.natAbs
  gcd : Int.gcd x.num x.den = 1
  eq : x.num * d = n * x.den
theorem isLow {n d : Int} (hd : 0 < d) : IsLow (low n d) n d := by
  have hg := gcd_pos' (n := n) hd
  have h1 : ((Int.gcd n d : Nat) : Int) ∣ n := Int.gcd_dvd_left ..
  have h2 : ((Int.gcd n d : Nat) : Int) ∣ d := Int.gcd_dvd_right ..
  obtain ⟨a, ha⟩ := h1
  obtain ⟨b, hb⟩ := h2
  have hg0 : ((Int.gcd n d : Nat) : Int) ≠ 0 := by omega
  have en : (low n d).num = a := by
    show n / _ = a
    rw [ha, ← ha, Int.ediv_eq_of_eq_mul_right hg0 ha]
  have ed : (low n d).den = b := by
    show d / _ = b
    rw [Int.ediv_eq_of_eq_mul_right hg0 hb]
  have hb0 : 0 < b := by
    have : 0 < ((Int.gcd n d : Nat) : Int) * b := by rw [← hb]; exact hd
    exact Int.pos_of_mul_pos_right this (by omega) |> fun h => h
  refine ⟨by rw [ed]; exact hb0, ?_, ?_, ?_, ?_⟩
  · rw [ed, hb]
    have := Int.mul_le_mul_of_nonneg_right (a := 1) (b := ((Int.gcd n d : Nat) : Int)) (c := b) (by omega) (by omega)
    rw [Int.one_mul] at this
    rw [← hb] at this ⊢
    omega
  · rw [en]
    have e : n.natAbs = Int.gcd n d * a.natAbs := by
      have := congrArg Int.natAbs ha
      rw [Int.natAbs_mul] at this
      simpa using this
    rw [e]
    exact Nat.le_mul_of_pos_left _ hg
  · exact Int.gcd_ediv_gcd_ediv_gcd hg
  · rw [en, ed]
    have e1 : a * d = a * (((Int.gcd n d : Nat) : Int) * b) := by rw [← hb]
    have e2 : n * b = (((Int.gcd n d : Nat) : Int) * a) * b := by rw [← ha]
    rw [e1, e2, ← Int.mul_assoc, Int.mul_comm a]
end Go.Proofs.Ab.Tone2
end
section
/- The law of the factors: the contracts of what it asks, and plain laws. -/
set_option maxRecDepth 100000
set_option linter.unusedVariables false
set_option linter.unusedSimpArgs false
namespace Go.Proofs.Ab.Tone2
open Go Go.RowKit Go.Proofs.Ab Go.Proofs.Ab.Tone
theorem needle_ok {m : Int} {s : Sg} (h : checkE s = 0) : APure (C m) 16 [.agg (sc s)] (.tup [.agg (rc (low (dif s) (sq s.c))), I 0]) := by
  have h1 := up (m := m) (Needle_pure s)
  unfold needleR at h1
  rwa [if_pos h, h] at h1
theorem scaled_ok {m : Int} {s : Sg} {c d : G} (hs : checkE s = 0) (hc : c.Fit 1000) (hz : ¬ (c.re = 0 ∧ c.im = 0)) (hd : d.Fit 1000) (h : Ok (s.by c d)) : APure (C m) 28 [.agg (sc s), .agg (gc c), .agg (gc d)] (.tup [.agg (sc (s.by c d)), I 0]) := by
  have h1 := up (m := m) (Scaled_pure s c d)
  have h2 : factE s c d = 0 := by
    unfold factE
    rw [hs, (partE_zero (by decide) (by decide)).2 ⟨hc.re, hc.im⟩, zeroE_zero.2 hz, (partE_zero (by decide) (by decide)).2 ⟨hd.re, hd.im⟩]
    rfl
  have h3 := madeE_zero.2 h
  unfold scaledS scaledE madeS at h1
  rwa [if_pos h2, if_pos h2, if_pos h3, h3] at h1
theorem turned_ok {m : Int} {s : Sg} {k : Int} (hs : checkE s = 0) (h0 : 0 ≤ k) (h1 : k ≤ 3) : APure (C m) 27 [.agg (sc s), I k] (.tup [.agg (sc (s.turn k.toNat)), I 0]) := by
  have h2 := up (m := m) (Turned_pure s k)
  have h3 : turnE s k = 0 := by
    unfold turnE
    rw [hs, within_zero.2 ⟨h0, h1⟩]
    rfl
  unfold turnedS at h2
  rwa [if_pos h3, h3] at h2
theorem mulb {x y : Int} {a b : Nat} (hx : x.natAbs ≤ a) (hy : y.natAbs ≤ b) : (x * y).natAbs ≤ a * b := by
  rw [Int.natAbs_mul]
  exact Nat.mul_le_mul hx hy
theorem near1_fit {a : G} {n : Int} (h : near1 a n) (h0 : 0 ≤ n) : a.Fit n.toNat := ⟨by have := h.1; omega, by have := h.2; omega⟩
/-- The quarter turn, written out. -/
theorem turn1 (a : G) : turnN a 1 = ⟨0 - a.im, a.re⟩ := by
  simp only [turnN, G.mul, G.mk.injEq]
  omega
theorem sgTurn1 (s : Sg) : s.turn 1 = ⟨⟨0 - s.c.im, s.c.re⟩, ⟨0 - s.l.im, s.l.re⟩, ⟨0 - s.h.im, s.h.re⟩⟩ := by
  unfold Sg.turn
  rw [turn1, turn1, turn1]
theorem turn_dif (s : Sg) : dif (s.turn 1) = dif s := by
  rw [sgTurn1]
  simp only [dif, aga, G.sub]
  grind
theorem turn_sq (s : Sg) : sq (s.turn 1).c = sq s.c := by
  rw [sgTurn1]
  simp only [sq]
  grind
theorem turn_near {s : Sg} {n : Int} (h : near1 s.c n ∧ near1 s.l n ∧ near1 s.h n) : near1 (s.turn 1).c n ∧ near1 (s.turn 1).l n ∧ near1 (s.turn 1).h n := by
  rw [sgTurn1]
  unfold near1 at *
  simp only
  omega
theorem ok_of {s : Sg} {n : Int} (h : near1 s.c n ∧ near1 s.l n ∧ near1 s.h n) (h0 : 0 ≤ n) (hn : n ≤ 10000) (hz : 0 < sq s.c) : Ok s := by
  have f : ∀ a : G, near1 a n → a.Fit 10000 := fun a ha => ⟨by have := ha.1; omega, by have := ha.2; omega⟩
  refine ⟨⟨f _ h.1, f _ h.2.1, f _ h.2.2⟩, fun e => ?_⟩
  unfold sq at hz
  rw [e.1, e.2] at hz
  simp at hz
theorem by_dif (s : Sg) (f : G) : dif (s.by f f) = sq f * dif s := by
  simp only [Sg.by, dif, aga, G.sub, G.mul, sq]; grind
theorem by_sq (s : Sg) (f : G) : sq (s.by f f).c = sq f * sq s.c := by
  simp only [Sg.by, G.mul, sq]; grind
theorem mul_near {a b : G} {m n : Nat} (ha : a.Fit m) (hb : b.Fit n) : near1 (a.mul b) ((2 * (m * n) : Nat) : Int) := by
  have e1 := mulb ha.re hb.re
  have e2 := mulb ha.im hb.im
  have e3 := mulb ha.re hb.im
  have e4 := mulb ha.im hb.re
  unfold near1 G.mul
  simp only
  omega
theorem agab {s : Sg} {a : G} {m n : Nat} (hc : s.c.Fit m) (ha : a.Fit n) : (aga s a).natAbs ≤ 2 * (n * m) := by
  have e1 := mulb ha.re hc.re
  have e2 := mulb ha.im hc.im
  unfold aga
  omega
theorem sqb {a : G} {m : Nat} (h : a.Fit m) : (sq a).natAbs ≤ 2 * (m * m) := by
  have e1 := mulb h.re h.re
  have e2 := mulb h.im h.im
  unfold sq
  omega
end Go.Proofs.Ab.Tone2
end
section
/- A body that is cut into pieces. -/
set_option linter.unusedVariables false
set_option linter.unusedSimpArgs false
namespace Go.Proofs.Ab
open Go Go.RowKit

/-- Where the evaluation is cut. -/
structure SCut (p : Prop) : Prop where
  h : p
/-- The code up to its n-th piece; from there on, what the rest comes to. -/
def codeN (C : Cx) (nt : Nat) (mu : List Nat) : Nat → Code → AS → (Out → AS → Prop) → Prop
  | 0, c, s, Q => SCut (AWp C nt c Q s)
  | n + 1, .seq c d, s, Q => codeK C nt mu c s fun e s' => match e with
    | .normal => codeN C nt mu n d s' Q
    | e => Q e s'
  | _ + 1, c, s, Q => codeK C nt mu c s Q
theorem codeN_sound {C : Cx} {nt : Nat} (hC : C.Good) {mu : List Nat} : ∀ {n : Nat} {c : Code} {s : AS} {Q : Out → AS → Prop}, codeN C nt mu n c s Q → AWp C nt c Q s
  | 0, c, s, Q, h => h.h
  | n + 1, .seq c d, s, Q, h => .seq ((codeK_sound hC (mu := mu) h).mono fun e s' hq => by
      cases e with
      | normal => exact codeN_sound hC hq
      | ret => exact hq
      | exit i => exact hq)
  | n + 1, .skip, s, Q, h => codeK_sound hC h
  | n + 1, .region _ _ _, s, Q, h => codeK_sound hC h
  | n + 1, .cond _ _ _, s, Q, h => codeK_sound hC h
  | n + 1, .block _ _, s, Q, h => codeK_sound hC h
  | n + 1, .exit _, s, Q, h => codeK_sound hC h
  | n + 1, .ret, s, Q, h => codeK_sound hC h
  | n + 1, .loop _, s, Q, h => codeK_sound hC h
  | n + 1, .rangeFunc _ _ _ _, s, Q, h => codeK_sound hC h
  | n + 1, .scope _, s, Q, h => codeK_sound hC h
  | n + 1, .label _, s, Q, h => codeK_sound hC h
  | n + 1, .goto _, s, Q, h => codeK_sound hC h
  | n + 1, .refuse _, s, Q, h => codeK_sound hC h
/-- A contract, out of what the body's code comes to. -/
theorem APure.of_wp {C : Cx} (hC : C.Good) {f : FuncId} {fn : Func} {c : Code} {rs : List ResultVar} {nt : Nat} {xs : List PV} {v : PV} (hf : C.P.funcs[f]? = some fn) (hn : (fn.name == "runtime.NumGoroutine") = false) (hb : fn.body = some c)
    (hnt : fn.ntmps = nt) (hx : Nat.ble xs.length nt = true) (hrs : fn.results = rs.toArray) (hl : Nat.ble rs.length 4 = true)
    (h : AWp C nt c (fun e s => match e with | .exit _ => False | _ => endK C rs s v) (initS xs)) : APure C f xs v := by
  refine ⟨⟨fn, c, hf, hn, hb⟩, fun w ok us hlt hg hr => ?_⟩
  refine (callsIn_wide (n := 0)).1 (callsIn_of_wp_marks hf hb trivial ?_)
  have hxl : us.length ≤ nt := by rw [hr.1]; exact Nat.le_of_ble_eq_true hx
  have hS : Sat C nt (initS xs) w.heap.size ⟨ok, fun _ => undef⟩ w { tmps := us.toArray ++ Array.replicate (fn.ntmps - us.toArray.size) undef, defers := [] } w ⟨ok, fun _ => none, fun _ => none⟩ := by
    refine ⟨rfl, by simp [hnt]; omega, fun t v ht => ?_, ⟨fun n T cs hn => (by cases hn), fun n e sz xs hn => (by cases hn), fun n o hn => (by cases hn)⟩, fun n m x y g hn => (by cases hn), fun n m x y g v hn => (by cases hn), fun n m x y g v v' hn => (by cases hn), fun n _ => ⟨rfl, rfl⟩, hlt, fun b hb => .inl hb, fun b hb => hb, rfl, Below.refl _ _, hg, fun t v ht => (by cases ht), ⟨fun n m x y hn => (nomatch hn), fun n m x y hn => (nomatch hn), fun n m x y v hn => (nomatch hn)⟩⟩
    obtain ⟨j, x, rfl, hj, rfl⟩ := initFr_look ht
    have hjl : j < us.length := by rw [hr.1]; exact (List.getElem?_eq_some_iff.1 hj).1
    rw [Nat.zero_add]
    refine ⟨by omega, ?_⟩
    have : (us.toArray ++ Array.replicate (fn.ntmps - us.toArray.size) undef).getD j undef = us[j] := by
      have h1 : j < us.length + (fn.ntmps - us.length) := by omega
      simp [Array.getD, h1, Array.getElem_append, hjl]
    simp only [this]
    exact hr.2 j x us[j] hj (List.getElem?_eq_getElem hjl)
  have hFW : FW C Fence.wide := ⟨fun _ => trivial, rfl, rfl, fun _ => rfl⟩
  refine h.wp Fence.wide 0 hFW _ _ w _ w _ _ hS (fun e s a w' E hq hS' => ?_)
  have fin : endK C rs s v → LeavesInM Fence.wide 0 C.P fn a.tmps (fun e w' => ∃ u, e = .returned u ∧ Below w.heap.size w w' ∧ Rep w' (grow ok w w') v u) a.defers .returning w' := by
    intro hq
    obtain ⟨s1, hq, h1⟩ := sealOpsK_sound (C := C) (nt := nt) hq
    obtain ⟨s2, hq, h2⟩ := freezeOpsK_sound (C := C) (nt := nt) hq
    obtain ⟨E1, hS1⟩ := h1 hS'
    obtain ⟨E2, hS2⟩ := h2 hS1
    rw [hS2.defs]
    refine leaveK_sound (s := s2) (K := fun o' => resK C { s2 with ob := o' } rs fun xs => match xs with
      | [x] => SEnd x v
      | xs => SEnd (.tup xs) v) hq hS2 (fun ob' w' hq hS2 => ?_)
    obtain ⟨ys, hq, hyl, hys⟩ := resK_sound (nt := nt) hC hq
    obtain ⟨vs, hrv, ho⟩ := hys hS2
    refine ⟨_, results_run hrs (Nat.le_of_ble_eq_true hl) ho, _, rfl, hS2.below, ?_⟩
    have hgr : ∀ b, E2.ok b → grow ok w w' b := fun b hb => by
      rcases hS2.ok_from b hb with h | h
      · exact .inl h
      · exact .inr ⟨h, hS2.ok_lt b hb⟩
    have hrv' : RepL w' (grow ok w w') ys vs := hrv.ext hgr (fun _ _ => rfl)
    have hvl := hrv.1
    split at hq
    · rename_i x
      obtain ⟨u, us', rfl, hu, hn⟩ := hrv'.uncons
      obtain rfl := hn.unnil
      exact hq.h _ _ _ hu
    · rename_i hne
      have : Rep w' (grow ok w w') (.tup ys) (.tuple vs.toArray) := .tup ys vs hrv'.1 hrv'.2
      split
      · rename_i u
        obtain ⟨y, rfl⟩ : ∃ y, ys = [y] := List.length_eq_one_iff.1 (by simpa using hvl.symm)
        exact absurd rfl (hne y)
      · exact hq.h _ _ _ this
  cases e with
  | normal => exact fin hq
  | ret => exact fin hq
  | exit i => exact hq.elim

end Go.Proofs.Ab
end
section
/- The law of what agrees: the walk up to the further signals. -/
set_option maxRecDepth 100000
set_option linter.unusedVariables false
set_option linter.unusedSimpArgs false
namespace Go.Proofs.Ab.Tone2
open Go Go.RowKit Go.Proofs.Ab Go.Proofs.Ab.Tone
/-- A piece of a piece of code. -/
def pieceAt : List Nat → Code → Code
  | 0 :: r, .seq c _ => pieceAt r c
  | 1 :: r, .seq _ c => pieceAt r c
  | 0 :: r, .block _ c => pieceAt r c
  | 0 :: r, .loop c => pieceAt r c
  | 0 :: r, .scope c => pieceAt r c
  | 0 :: r, .cond _ c _ => pieceAt r c
  | 1 :: r, .cond _ _ c => pieceAt r c
  | _, c => c
noncomputable def c13 : Code := Tryz.f13.body.getD .skip
/-- What is asked of the law's end. -/
def endTrue (m : Int) (rs : List ResultVar) : Out → AS → Prop := fun e s => match e with
  | .exit _ => False
  | _ => endK (C m) rs s (Bo true)
abbrev moreC (bandN : Int) (l : List Sg) : List PV := [.v (.int .u16 bandN), .seq 6 (l.map sc)]
abbrev stMore (a b : Sg) (bandN : Int) (l : List Sg) : AS := ⟨[(3, .p (.ref (sc a))), (4, .p (.ref (sc b))), (5, .p (.ref (moreC bandN l)))], [], [], 0, [], [], []⟩
section
attribute [local irreducible] APure
set_option maxHeartbeats 40000000 in
theorem ToneAgrees_first {m : Int} (a b : Sg) (bandN band K Wd cuv x y : Int) (l : List Sg) (N U V : R) (t w : Sg)
    (hband : wrapK IntKind.i64 (1000 + (wrapK IntKind.i64 bandN).tmod 9001) = band) (hl : ¬ 8 < ((l.map sc).length : Int))
    (n1 : APure (C m) 69 [.agg (sc a), I 1000] (Bo true)) (n2 : APure (C m) 69 [.agg (sc b), I 1000] (Bo true))
    (c47 : APure (C m) 47 [.agg (sc2 a b), I band] (.tup [I K, I 0])) (c48 : APure (C m) 48 [.agg (sc2 a b), I band] (.tup [.agg (rc N), I 0])) (c16a : APure (C m) 16 [.agg (sc a)] (.tup [.agg (rc U), I 0])) (c16b : APure (C m) 16 [.agg (sc b)] (.tup [.agg (rc V), I 0]))
    (c47w : APure (C m) 47 [.agg (sc2 a b), I 10000] (.tup [I Wd, I 0])) (hK : 0 ≤ K ∧ K ≤ 2) (r1 : APure (C m) 71 [.agg (rc N)] (Bo true)) (r2 : APure (C m) 71 [.agg (rc U)] (Bo true)) (r3 : APure (C m) 71 [.agg (rc V)] (Bo true))
    (e0 : K = 0 → EqAgg Tone.C 28 (rc N) (rc U) true) (e1 : K = 1 → EqAgg Tone.C 28 (rc N) (rc V) true) (hw : Wd = 2 ∨ Wd = K ∨ band = 1000)
    (c81 : APure (C m) 81 [.agg (rc U), .agg (rc V)] (I cuv)) (kx : ¬ 0 < cuv → APure (C m) 81 [.agg (rc N), .agg (rc U)] (I x)) (ky : ¬ 0 < cuv → APure (C m) 81 [.agg (rc N), .agg (rc V)] (I y))
    (kx' : 0 < cuv → APure (C m) 81 [.agg (rc N), .agg (rc V)] (I x)) (ky' : 0 < cuv → APure (C m) 81 [.agg (rc N), .agg (rc U)] (I y)) (hx : 0 ≤ x) (hy : y ≤ 0)
    (c27 : APure (C m) 27 [.agg (sc a), I 1] (.tup [.agg (sc t), I 0])) (c48t : APure (C m) 48 [.agg (sc2 a t), I band] (.tup [.agg (rc U), I 0]))
    (c28 : APure (C m) 28 [.agg (sc a), .agg [I 2, I 0], .agg [I 2, I 0]] (.tup [.agg (sc w), I 0])) (c48w : APure (C m) 48 [.agg (sc2 w a), I band] (.tup [.agg (rc U), I 0]))
    (tail : AWp (C m) Tryz.f13.ntmps (pieceAt [1,1,1,1,1,1,1,1,1,1,1,1,1,1,1,1,1,1] c13) (endTrue m [ResultVar.tmp 6]) (stMore a b bandN l)) :
    APure (C m) 13 [.agg (sc a), .agg (sc b), .agg (moreC bandN l)] (Bo true) := by
  refine APure.of_wp good (fn := Tryz.f13) (by kernel_rfl) (by kernel_rfl) rfl rfl (by kernel_rfl) rfl (by kernel_rfl) ?_
  subst hband
  refine codeN_sound good (mu := []) (n := 18) ?_
  conv => whnf
  repeat' (first
    | (refine codeK_sound good (mu := []) ?_; conv => whnf)
    | ((first | rw [wl0] | rw [wl1] | rw [wl2] | rw [wl3] | rw [wl4] | rw [wl5]); conv => whnf)
    | (refine SBool.mk (fun _ => ?_) (fun h => absurd (of_decide_eq_true rfl) h); conv => whnf)
    | (refine SBool.mk (fun h => absurd h (of_decide_eq_false rfl)) (fun _ => ?_); conv => whnf)
    | (refine SBool.mk (fun h => ?_) (fun h => ?_) <;> conv => whnf)
    | (refine SEx.mk _ (by first | exact awake_pure | exact at_pure _ _ | exact n1 | exact n2 | exact c47 | exact c48 | exact c16a | exact c16b | exact c47w | exact r1 | exact r2 | exact r3 | exact e0 (by assumption) | exact e1 (by assumption) | exact c81 | exact kx (by assumption) | exact ky (by assumption) | exact kx' (by assumption) | exact ky' (by assumption) | exact c27 | exact c48t | exact c28 | exact c48w | exact eq_ratio_self _ _) ?_; conv => whnf)
    | (refine SEx.mk _ (by first | exact rfl | exact ⟨of_decide_eq_true rfl, rfl⟩) ?_; conv => whnf)
    | (refine SAll.mk (fun _ => ?_); conv => whnf)
    | (refine SAnd.mk ⟨by intro c hc; simp at hc; first | (subst hc; rfl) | ((repeat' (rcases hc with rfl | hc)) <;> first | rfl | (subst hc; rfl)), by (simp; first | done | omega), by (simp; first | done | omega)⟩ ?_; conv => whnf)
    | (refine SAnd.mk (by first | exact rfl | kernel_rfl | omega | decide | exact awake_pure | exact at_pure _ _ | exact n1 | exact n2 | exact c47 | exact c48 | exact c16a | exact c16b | exact c47w | exact r1 | exact r2 | exact r3 | exact e0 (by assumption) | exact e1 (by assumption) | exact c81 | exact kx (by assumption) | exact ky (by assumption) | exact kx' (by assumption) | exact ky' (by assumption) | exact c27 | exact c48t | exact c28 | exact c48w | exact eq_ratio_self _ _) ?_; conv => whnf)
    | fail)
  all_goals first
    | exact ⟨PLe.refl _⟩
    | (exfalso; omega)
    | refine ⟨AWp.le ?_ tail⟩
  all_goals
    skip
    · refine SLe.of [] [] rfl rfl ?_
      conv => whnf
      repeat' (first
      | exact True.intro
      | (refine SAnd.mk (PLe.of_eq (by simp only [wrapK]; rw [wrap_id (by first | omega | (simp only; done) | (simp only; omega) | simp) (by first | omega | (simp only; done) | (simp only; omega) | simp)]; simp)) ?_; conv => whnf)
      | (refine SAnd.mk (PLe.refl _) ?_; conv => whnf)
      | (refine SAnd.mk (PLeL.refl _) ?_; conv => whnf)
      | (refine SAnd.mk (PLe.of_eq (by simp)) ?_; conv => whnf)
      | (refine SAnd.mk rfl ?_; conv => whnf)
      | (refine SAnd.mk ⟨rfl, rfl⟩ ?_; conv => whnf)
      | (refine SAnd.mk ⟨rfl, rfl, rfl⟩ ?_; conv => whnf))
end
end Go.Proofs.Ab.Tone2
end
